/- The engine, part 4: a call of the program answers what an evaluator of values without memory answers, for the functions whose code is the one that the evaluator is given. -/
import Derived.Test.YtpcoohnjllclnaaGreatEngD
set_option linter.unusedSimpArgs false
set_option linter.unusedVariables false
namespace Go.Proofs.YtpcoohnjllclnaaGreat.VS
def U:Tag:= .own [] 0
mutual
def DV.clr:DV->DV
 | .sl _ xs=> .sl .sub (DV.clrs xs)
 | .agg cs=> .agg (DV.clrs cs)
 | .tup vs=> .tup (DV.clrs vs)
 | .int k n=> .int k n
 | .bool b=> .bool b
 | .str s=> .str s
def DV.clrs:aw->aw
 | []=>[]
 |v::r=>v.clr::DV.clrs r
end
mutual
def AV.clr:AV->AV
 | .d v=> .d v.clr
 | .ep cs=> .ep (DV.clrs cs)
 | .fn f cap=> .fn f (AV.clrs cap)
 | .ptr i o=> .ptr i o
 | .nilp=> .nilp
 | .bsl id a i sz n=> .bsl id a i sz n
 | .tsl a i sz n=> .tsl a i sz n
 | .ag t cs=> .ag t (AV.clrs cs)
 | .und=> .und
def AV.clrs:aG->aG
 | []=>[]
 |v::r=>v.clr::AV.clrs r
end
def DV.cn1:DV->DV
 | .sl .nil []=> .sl U []
 |v=>v.clr
def DV.cn:DV->DV
 | .agg cs=> .agg (cs.map DV.cn1)
 |v=>v.cn1
def isAgg:DV->Bool
 | .agg _=>true
 |_=>false
mutual
def DV.allU:DV->Bool
 | .sl _ []=>true
 | .sl g (x::xs)=>decide (g=U)&&DV.allUs (x::xs)
 | .agg cs=>DV.allUs cs
 | .tup _=>false
 | .int _ _=>true
 | .bool _=>true
 | .str _=>true
def DV.allUs:aw->Bool
 | []=>true
 |v::r=>v.allU&&DV.allUs r
end
def DV.allUT:DV->Bool
 | .tup vs=>DV.allUs vs
 |v=>v.allU
structure XS where
 r:aI
 B:az
abbrev dK:=Option (Ex×XS)
abbrev bZ:=Option XS
abbrev cf:=Nat->aG->az->nJ
def bm(r:aI):VX->a8
 | .t n=>lk r n
 | .c (.d v)=>some (.d v.cn)
 | .c v=>some v.clr
def cR(T:ae):bi->Bool
 |some d=>T.contains d
 |none=>false
def a9(T:ae)(s:XS)(dst:bi)(v:AV):XS:=
 match dst with
 |some d=>⟨(d,if T.contains d then v else v.clr)::s.r,s.B⟩
 |none=>s
def et(T:ae)(r:aI):VX->aI
 | .t n=>if T.contains n then(match lk r n with|some v=>(n,v.clr)::r|none=>r)else r
 | .c _=>r
def du(T:ae)(r:aI):cg->aI
 | []=>r
 |x::xs=>du T (et T r x) xs
def dH(T:ae)(dst:bi)(s:XS)(xs:cg):XS:=if cR T dst then⟨du T s.r xs,s.B⟩else s
def qK(B:az)(i off sz:Nat):az:=
 match b5 B i with
 |some cs=>B.set i (some (splice cs off (AV.clrs ((cs.drop off).take sz))))
 |none=>B
def f7(B:az):az:=B.map fun b=>b.map AV.clrs
def pA(B:az)(sz i off:Nat)(v:AV):Option az:=
 (b5 B i).bind fun cs=>if v.cells.length=sz/\off+sz<=cs.length/\v.cells.all AV.isCell/\v.safe i then some (B.set i (some (splice cs off v.cells)))else none
def j4(r:aI):cg->Option aG
 | []=>some []
 |x::xs=>(bm r x).bind fun v=>(j4 r xs).map (v::·)
def dq(LP:ae):Nat->aG->aG
 |_,[]=>[]
 |j,v::r=>(if LP.contains j then v else v.clr)::dq LP (j+1) r
def dp(LP:ae):Nat->cg->cg
 |_,[]=>[]
 |j,x::r=>if LP.contains j then x::dp LP (j+1) r else dp LP (j+1) r
def bU(sz bytes:Nat)(x y:DV):cP:=
 match x,y with
 | .sl g xs,.sl _ ys=>
  if ys.all (fun e=>e.cells.length=sz/\e.cells.all DV.isCell)then
   if ys.isEmpty then some (.sl g xs)
   else if(xs.length+ys.length)*bytes<=140737488355328/\g=U/\xs.all (fun e=>e.cells.length=sz)then some (.sl U (xs++ys))
   else none
  else none
 |_,_=>none
def VX.linT(T:ae):VX->ae
 | .t n=>if T.contains n then [n]else []
 | .c _=>[]
def c6(T:ae):cg->Bool
 | []=>true
 |x::xs=>(x.linT T).all (fun n=> !(xs.any fun y=>(y.linT T).contains n))&&c6 T xs
def VOper.linOK(T:ae)(o:VOper):Bool:=
 match o.op with
 | .build _ ps=>c6 T (ps.map fun q=>q.2.2)
 | .buildSlice _ _ _ ps=>c6 T (ps.map fun q=>q.2)
 | .append _ _ x y=>c6 T [x,y]
 |_=>true
def VRes.vx:VRes->cg
 | .tmp t=>[.t t]
 | .cell _ _ _=>[]
def VCode.linOK(T:ae):VCode->Bool
 | .seq a b=>a.linOK T&&b.linOK T
 | .region _ _ _ ops=>ops.all (VOper.linOK T)
 | .cond _ a b=>a.linOK T&&b.linOK T
 | .block _ c=>c.linOK T
 | .loop _ c=>c.linOK T
 | .regionF _ _ _ fs=>fs.all fun f=>f.pre.all (VOper.linOK T)
 | .regionS _ _ pre _ _ _ _ _ _ _=>pre.all (VOper.linOK T)
 |_=>true
def VFn.linOK(T:ae)(f:VFn):Bool:=f.code.linOK T&&c6 T (f.results.flatMap VRes.vx)
def r_(T:ae)(thaw:Bool)(s:XS)(dst:bi)(v:DV):bZ:=if v.allUT then some (if thaw then a9 T ⟨s.r,s.B++(v.clr.thaw s.B.length).2⟩ dst (v.clr.thaw s.B.length).1 else a9 T s dst (.d v))else none
def xJ(T:ae)(dst:bi)(sz:Nat)(arr:bi)(x i:VX)(s:XS):bZ:=
 match cR T dst,x,arr with
 |true,.t n,none=>
  match bm s.r x,bm s.r i with
  |some (.d (.sl g xs)),some (.d (.int _ k))=>
   if 0<=k then(xs[k.toNat]?).bind fun e=>if e.cells.length=sz/\sz≠0 then some (a9 T (if T.contains n then⟨(n,.d (.sl g (xs.set k.toNat e.clr)))::s.r,s.B⟩else s) dst (.ep e.cells))else none
   else none
  |_,_=>none
 |_,_,_=>(bo s.r (.indexAddr sz arr x i)).map fun v=>a9 T s dst v.clr
def be(call:cf)(lin:Nat->ae)(T:ae)(draw:Bool)(L0:Nat)(o:VOper)(s:XS):bZ:=
 match o.op with
 | .move x=>(bm s.r x).map fun v=>a9 T (dH T o.dst s [x]) o.dst v
 | .pick c a b=>
  match bm s.r c with
  |some (.d (.bool true))=>(bm s.r a).map fun v=>a9 T (dH T o.dst s [a]) o.dst v
  |some (.d (.bool false))=>(bm s.r b).map fun v=>a9 T (dH T o.dst s [b]) o.dst v
  |_=>none
 | .alloc k zero=>if eK s.B (L0+k)/\zero.all DV.isCell then some (a9 T ⟨s.r,s.B.set (L0+k) (some (zero.map fun z=> .d z.cn1))⟩ o.dst (.ptr (L0+k) 0))else none
 | .box k x=>
  (bm s.r x).bind fun v=>
   if eK s.B (L0+k)/\v.cells.all AV.isCell/\v.safe (L0+k)then
    some (a9 T ⟨et T s.r x,s.B.set (L0+k) (some v.cells)⟩ o.dst (.ptr (L0+k) 0))
   else none
 | .build zero parts=>(iR (bm s.r) (zero.map DV.cn1) parts).map fun cs=>a9 T (dH T o.dst s (parts.map fun q=>q.2.2)) o.dst (.d (.agg cs))
 | .buildSlice sz zero len parts=>
  if zero.cells.length=sz/\zero.cells.all DV.isCell/\len*sz<=16777216/\len<=16777216 then
   (f6 (bm s.r) sz (List.replicate len zero.cn) parts).map fun xs=>a9 T (dH T o.dst s (parts.map fun q=>q.2)) o.dst (.d (.sl U xs))
  else none
 | .makeSlice k sz bytes zero x=>
  match bm s.r x with
  |some (.d (.int _ n))=>
   if draw=false/\eK s.B (L0+k)/\0<=n/\n.toNat*bytes<=140737488355328/\n<9223372036854775808/\zero.cells.length=sz/\zero.cells.all DV.isCell then
    some (a9 T ⟨s.r,s.B.set (L0+k) (some (((List.replicate n.toNat zero.cn).flatMap DV.cells).map .d))⟩ o.dst
     (.bsl [] (isAgg zero) (L0+k) sz n.toNat))
   else none
  |_=>none
 | .load agg sz a=>
  match bm s.r a with
  |some (.ep cs)=>(cut agg sz cs).map fun v=>a9 T (dH T o.dst s [a]) o.dst (.d v)
  |some (.ptr b off)=>if draw/\L0<=b then none else(aW s.B agg sz b off).map fun v=>a9 T (if cR T o.dst then⟨s.r,qK s.B b off (if agg then sz else 1)⟩else s) o.dst v
  |_=>none
 | .store init sz a x=>
  match bm s.r a,bm s.r x with
  |some (.ptr b off),some v=>if nT draw init L0 b then none else(pA s.B sz b off v).map fun B=>a9 T ⟨et T s.r x,B⟩ o.dst .und
  |_,_=>none
 | .storeN sz a x av=>
  match bm s.r a,bm s.r x with
  |some (.ptr b off),some v=>if nT draw false L0 b|| !lV s.r b av then none else(pA s.B sz b off v).map fun B=>a9 T ⟨et T s.r x,B⟩ o.dst .und
  |_,_=>none
 | .append sz bytes x y=>
  match bm s.r x,bm s.r y with
  |some (.d v),some (.d w)=>(bU sz bytes v w).map fun u=>a9 T ⟨du T s.r (if cR T o.dst then [x,y]else [x]),s.B⟩ o.dst (.d u)
  |_,_=>none
 | .call iso f args=>
  match bm s.r f,j4 s.r args with
  |some (.fn k caps),some vs=>
   if iso then
    match bd vs,caps with
    |some _,[]=>
     match call k (dq [] 0 vs) []with
     |some (.d v,_)=>some (a9 T s o.dst (.d v))
     |_=>none
    |_,_=>none
   else
    if c6 T (dp (lin k) 0 args)then
     match call k (dq (lin k) 0 vs++caps) s.B with
     |some (v,B)=>some (a9 T ⟨du T s.r (dp (lin k) 0 args),B⟩ o.dst v)
     |none=>none
    else none
  |_,_=>none
 | .extract x i=>
  match bm s.r x with
  |some (.ag true vs)=>(vs[i]?).map fun v=>a9 T s o.dst v.clr
  |some (.d (.tup vs))=>(vs[i]?).map fun v=>a9 T (match x with| .t n=>if cR T o.dst&&T.contains n then⟨(n,.d (.tup (vs.set i v.clr)))::s.r,s.B⟩else s| .c _=>s) o.dst (.d v)
  |_=>none
 | .eqNil _ _=>none
 | .indexAddr sz arr x i=>xJ T o.dst sz arr x i s
 |op=>(bo s.r op).map fun v=>a9 T s o.dst v.clr
def a7(call:cf)(lin:Nat->ae)(T:ae)(draw:Bool)(L0:Nat):ak->XS->bZ
 | [],s=>some s
 |o::os,s=>
  match gk s.r o.guard with
  |some true=>(be call lin T draw L0 o s).bind (a7 call lin T draw L0 os)
  |some false=>a7 call lin T draw L0 os (a9 T s o.dst .und)
  |none=>none
def aA(e:Nat)(live:ae)(s:XS):bZ:=if aB e (keep s.r live)/\e<=s.B.length then some ⟨keep s.r live,s.B.take e⟩else none
def fH(f:XS->dK)(e:Nat)(live:ae):Nat->XS->dK
 |0,_=>none
 |n+1,s=>
  (aA e live s).bind fun s0=>
   (f s0).bind fun r=>
    match r.1 with
    | .normal=>fH f e live n r.2
    |_=>some r
def lD(call:cf)(lin:Nat->ae)(T:ae)(draw:Bool)(na:Nat)(live:ae)(ops:ak)(s:XS):bZ:=
 if draw&& !vP ops then none
 else(a7 call lin T draw s.B.length ops ⟨s.r,s.B++List.replicate na none⟩).map fun s'=>⟨keep s'.r live,s'.B⟩
def fR(xs:aw)(l h:Nat):aw:=(xs.take h).take l++DV.clrs ((xs.take h).drop l)++xs.drop h
def je(T:ae):FOper->XS->bZ
 | .one _,s=>some s
 | .sl d1 a d2 _ d3 sz lo hi _ _ _,s=>
  match lk s.r a,eJ s.r lo,eJ s.r hi with
  |some (.d (.sl g xs)),some lo,some hi=>
   if(T.contains a=true/\T.contains d3=true/\d1≠a/\d2≠a/\d1≠d2)/\xs.all (fun e=>e.cells.length=sz)then
    (hZ xs.length hi).bind fun h=>(gL h lo).map fun l=>a9 T ⟨(a,.d (.sl g (fR xs l h)))::s.r,s.B⟩ (some d3) (.d (.sl .sub ((xs.take h).drop l)))
   else none
  |_,_,_=>none
 | .el d1 q d2 _ d3 sz d4 _ _ _ _,s=>
  match lk s.r q,lk s.r d2 with
  |some (.ptr b off),some (.d (.int _ k))=>
   if(T.contains d4=true/\d1≠q/\d2≠q/\d3≠q/\d1≠d2/\d3≠d2)/\0<=k/\sz≠0 then
    (b5 s.B b).bind fun cs=>
     match cs[off]? with
     |some (.d (.sl g xs))=>
      match xs[k.toNat]? with
      |some (.agg es)=>if es.length=sz then some (a9 T ⟨s.r,s.B.set b (some (cs.set off (.d (.sl g (xs.set k.toNat (DV.agg es).clr)))))⟩ (some d4) (.d (.agg es)))else none
      |_=>none
     |_=>none
   else none
  |_,_=>none
def ew(call:cf)(lin:Nat->ae)(T:ae)(draw:Bool)(L0:Nat):dZ->XS->bZ
 | [],s=>some s
 |f::fs,s=>(a7 call lin T draw L0 f.pre s).bind fun s1=>(je T f s1).bind (ew call lin T draw L0 fs)
def ku(call:cf)(lin:Nat->ae)(T:ae)(draw:Bool)(na:Nat)(live:ae)(fs:dZ)(s:XS):bZ:=
 if draw&& !vP (iw fs)then none
 else(ew call lin T draw s.B.length fs ⟨s.r,s.B++List.replicate na none⟩).map fun s'=>⟨keep s'.r live,s'.B⟩
mutual
def DV.xrest(rs:aw):DV->Bool
 | .agg cs=>DV.xrests rs cs
 | .tup cs=>DV.xrests rs cs
 | .sl g xs=>(xs.isEmpty||(xs.flatMap DV.cells).any (fun c=>rs.all fun r=> !c.like r)||decide (g=U))&&DV.xrests rs xs
 | .int _ _=>true
 | .bool _=>true
 | .str _=>true
def DV.xrests(rs:aw):aw->Bool
 | []=>true
 |v::r=>v.xrest rs&&DV.xrests rs r
end
def AV.xrest(rs:aw):AV->Bool
 | .d v=>v.xrest rs
 | .ptr _ _=>true
 | .nilp=>true
 | .bsl _ _ _ _ _=>true
 | .tsl _ _ _ _=>true
 | .und=>true
 | .fn _ []=>true
 |_=>false
def oJ(rs:aw)(r:aI):Bool:=r.all fun q=>q.2.xrest rs
def mn(rs:aw)(B:az):Bool:=B.all fun b=>match b with|none=>true|some cs=>cs.all (AV.xrest rs)
def rq(t t1:Nat):ak->Bool
 |⟨some d,.move (.t a),none,_⟩::r=>d==t1&&a==t&&t !=t1&&(r.all fun o=>o.dst !=some t1)&&r.all fun o=>o.dst !=some t
 |_=>false
def HA(live:ae)(t:Nat)(i x:VX)(s1:XS):bZ:=
 match lk s1.r t,bm s1.r i,bm s1.r x with
 |some (.d (.sl (.own [] 0) xs)),some (.d (.int _ k)),some (.d (.int kd v))=>if 0<=k/\k<xs.length/\xs.all (dc kd)=true/\live.contains t=false/\oJ xs (keep s1.r live)=true/\mn xs s1.B=true then some ⟨(t,.d (.sl U (xs.set k.toNat (.int kd v))))::keep s1.r live,s1.B⟩else none
 |_,_,_=>none
def rm(call:cf)(lin:Nat->ae)(T:ae)(na:Nat)(live:ae)(pre:ak)(t t1:Nat)(i x:VX)(s:XS):bZ:=if rq t t1 pre=false then none else(a7 call lin T false s.B.length pre {s with B:=s.B++List.replicate na none}).bind fun s1=>HA live t i x s1
def bP(call:cf)(lin:Nat->ae)(T:ae)(n:Nat):VCode->XS->dK
 | .skip,s=>some (.normal,s)
 | .ret,s=>some (.ret,s)
 | .exit id,s=>some (.exit id,s)
 | .seq a b,s=>
  (bP call lin T n a s).bind fun r=>
   match r.1 with
   | .normal=>bP call lin T n b r.2
   |_=>some r
 | .region draw na live ops,s=>(lD call lin T draw na live ops s).map fun s'=>(.normal,s')
 | .cond x a b,s=>
  match bm s.r x with
  |some (.d (.bool true))=>bP call lin T n a s
  |some (.d (.bool false))=>bP call lin T n b s
  |_=>none
 | .block id c,s=>(bP call lin T n c s).map fun r=>if r.1= .exit id then(.normal,r.2)else r
 | .loop live c,s=>fH (bP call lin T n c) s.B.length live n s
 | .regionF draw na live fs,s=>(ku call lin T draw na live fs s).map fun s'=>(.normal,s')
 | .regionS na live pre t t1 i x _ _ _,s=>(rm call lin T na live pre t t1 i x s).map fun s'=>(.normal,s')
def uK(s:XS):VRes->a8
 | .tmp t=>lk s.r t
 | .cell t agg sz=>
  match lk s.r t with
  |some (.ptr i off)=>(aW s.B agg sz i off).map AV.clr
  |_=>none
def qS(s:XS):jt->Option aG
 | []=>some []
 |x::xs=>(uK s x).bind fun v=>(qS s xs).map (v::·)
def G0(L:Nat)(s:XS)(t:Nat)(agg:Bool)(sz:Nat):nJ:=
 match lk s.r t with
 |some (.ptr i off)=>
  if L<=i then
   match aW s.B agg sz i off with
   |some (.d v)=>some (.d v,s.B.take L)
   |_=>none
  else none
 |_=>none
def Cn(L:Nat)(s:XS)(rs:jt):nJ:=
 match qS s rs with
 |some [.d v]=>some (.d v,s.B.take L)
 |some [.ptr i off]=>some (.ptr i off,s.B)
 |some [.bsl _ agg i sz n]=>
  if L<=i/\n<9223372036854775808 then
   ((b5 s.B i).bind bd).bind fun cs=>if cs.length=n*sz then(chunks agg sz n cs).map fun xs=>(.d (.sl U xs),s.B.take L)else none
  else none
 |some [_]=>none
 |some vs=>(bd vs).map fun ds=>(.d (.tup ds),s.B.take L)
 |none=>none
def HK(L:Nat)(s:XS)(t1:Nat)(m:Bool)(h G:Nat)(q:Bool)(u D:Nat):nJ:=
 match lk s.r t1,lk s.r G,lk s.r D with
 |some (.ptr e w),some (.ptr g C),some (.d (.bool b))=>
  if L<=e/\L<=g/\e≠g then
   match aW s.B m h e w,aW s.B q u g C with
   |some (.d v1),some (.d v2)=>some (.d (.tup [v1,v2,.bool b]),s.B.take L)
   |_,_=>none
  else none
 |_,_,_=>none
def f8(L:Nat)(s:XS):jt->nJ
 | [.cell t agg sz]=>G0 L s t agg sz
 | [.cell t1 h g,.cell e m q,.tmp r]=>HK L s t1 h g e m q r
 |rs=>Cn L s rs
structure XEnv where
 env:Env
 lin:Nat->ae
 nat:Nat->Option (aw->cP)
def ji(call:cf)(sf:SFn)(x:DV)(xr:aw):Option aw:=
 if DV.allUs (x::xr)=true then
  match call sf.srt [.tsl true 0 x.cells.length (xr.length+1),.fn sf.cmp []] [some (((x::xr).flatMap DV.cells).map .d)]with
  |some (_,[some cs])=>(bd cs).bind fun es=>if es.length=(xr.length+1)*x.cells.length then chunks true x.cells.length (xr.length+1) es else none
  |_=>none
 else none
def rY(s:XS):Option (DV×DV):=
 match lk s.r 3,lk s.r 4,s.B with
 |some (.ptr 0 0),some (.ptr 1 0),[some [.d g,.d e,_],some [.d q,.d h,.d m]]=>if g.flat&&e.flat&&q.flat&&h.flat&&m.flat&&g.isCell&&e.isCell then some (g.clr,e.clr)else none
 |_,_,_=>none
def jE(call:cf)(lin:Nat->ae)(T:ae)(n:Nat)(sf:SFn)(ds:aw):cP:=
 if ds.length≠sf.np then none else
  (bP call lin T n sf.pre ⟨bn 0 (ds.map .d),[]⟩).bind fun r=>
   match r.1,lk r.2.r sf.cond,lk r.2.r sf.row with
   | .normal,some (.d (.bool true)),some (.d (.sl (.own [] 0) (x::xr)))=>(rY r.2).bind fun y=>(ji call sf x xr).map fun q=> .agg [y.1,y.2,.sl U q]
   | .normal,some (.d (.bool false)),_| .normal,some (.d (.bool true)),some (.d (.sl _ []))=>
    (bP call lin T n sf.rest r.2).bind fun e=>
     match e.1 with
     | .exit _=>none
     |_=>(f8 0 e.2 sf.results).bind fun q=>match q.1 with
      | .d v=>some v
      |_=>none
   |_,_,_=>none
def ci(X:XEnv):Nat->cf
 |0,_,_,_=>none
 |n+1,f,args,B=>
  match X.nat f with
  |some g=>(bd args).bind fun ds=>(g ds).map fun v=>(.d v,B)
  |none=>
   match X.env.code f with
   |none=>
    match X.env.spec f with
    |none=>none
    |some sf=>(bd args).bind fun ds=>(jE (ci X n) X.lin (X.lin f) n sf ds).map fun v=>(.d v,B)
   |some vf=>
    if args.length≠vf.np then none else
     match X.env.base f with
     |none=>(bP (ci X n) X.lin (X.lin f) n vf.code ⟨bn 0 args,B⟩).bind fun r=>
      match r.1 with
      | .exit _=>none
      |_=>f8 B.length r.2 vf.results
     |some m=>if B.length≠m then none else(bP (ci X n) X.lin (X.lin f) n vf.code ⟨bn 0 (AV.clrs args),f7 B⟩).bind fun r=>
      match r.1 with
      | .exit _=>none
      |_=>f8 B.length r.2 vf.results
def Tag.ids:Tag->eU
 | .own a _=>[a]
 |_=>[]
def Tag.fit(g:Tag)(n:Nat)(g':Tag)(ys:aw):Prop:=g= .sub\/(g=U/\((n=0/\(g'= .nil\/∃a sz,g'= .own a sz))\/(n≠0/\∃a sz,g'= .own a sz/\∀e:DV,e∈ys->e.cells.length=sz)))
mutual
def DV.fit:DV->DV->Prop
 | .sl g xs,v=>∃g' ys,v= .sl g' ys/\DV.fits xs ys/\g.fit xs.length g' ys
 | .agg cs,v=>∃ds,v= .agg ds/\DV.fits cs ds
 | .tup cs,v=>∃ds,v= .tup ds/\DV.fits cs ds
 | .int k n,v=>v= .int k n
 | .bool b,v=>v= .bool b
 | .str s,v=>v= .str s
def DV.fits:aw->aw->Prop
 | [],ys=>ys=[]
 |x::xs,ys=>∃v vs,ys=v::vs/\x.fit v/\DV.fits xs vs
end
mutual
def DV.own:DV->DV->eU
 | .sl g xs,.sl g' ys=>(if g=U/\xs.length≠0 then g'.ids else [])++DV.owns xs ys
 | .agg cs,.agg ds=>DV.owns cs ds
 | .tup cs,.tup ds=>DV.owns cs ds
 |_,_=>[]
def DV.owns:aw->aw->eU
 |x::xs,y::ys=>x.own y++DV.owns xs ys
 |_,_=>[]
end
def AV.own:AV->AV->eU
 | .d x,.d v=>x.own v
 | .ep cs,.ep ds=>DV.owns cs ds
 |_,_=>[]
def AV.owns:aG->aG->eU
 |x::xs,y::ys=>x.own y++AV.owns xs ys
 |_,_=>[]
mutual
def AV.fit:AV->AV->Prop
 | .d x,v=>∃y,v= .d y/\x.fit y
 | .ep cs,v=>∃ds,v= .ep ds/\DV.fits cs ds
 | .fn f cap,v=>∃e,v= .fn f e/\AV.fits cap e/\AV.owns cap e=[]
 | .ptr i o,v=>v= .ptr i o
 | .nilp,v=>v= .nilp
 | .bsl _ a i sz n,v=>∃id,v= .bsl id a i sz n
 | .tsl a i sz n,v=>v= .tsl a i sz n
 | .ag t cs,v=>∃ds,v= .ag t ds/\AV.fits cs ds/\AV.owns cs ds=[]
 | .und,v=>v= .und
def AV.fits:aG->aG->Prop
 | [],ys=>ys=[]
 |x::xs,ys=>∃v vs,ys=v::vs/\x.fit v/\AV.fits xs vs
end
theorem Tag.qWg(n:Nat)(g':Tag)(ys:aw):Tag.fit .sub n g' ys:= .inl rfl
mutual
theorem DV.qde:∀(x v:DV),x.fit v->x.clr.fit v
 | .sl g xs,v,h=>by
  simp only[DV.fit,DV.clr]at h⊢
  obtain⟨g',ys,rfl,e,m⟩:=h;exact⟨g',ys,rfl,DV.qbF xs ys e,.inl rfl⟩
 | .agg cs,v,h=>by
  simp only[DV.fit,DV.clr]at h⊢
  obtain⟨ds,rfl,e⟩:=h;exact⟨ds,rfl,DV.qbF cs ds e⟩
 | .tup cs,v,h=>by
  simp only[DV.fit,DV.clr]at h⊢
  obtain⟨ds,rfl,e⟩:=h;exact⟨ds,rfl,DV.qbF cs ds e⟩
 | .int k n,v,h=>by simpa only[DV.fit,DV.clr]using h
 | .bool b,v,h=>by simpa only[DV.fit,DV.clr]using h
 | .str s,v,h=>by simpa only[DV.fit,DV.clr]using h
theorem DV.qbF:∀(xs ys:aw),DV.fits xs ys->DV.fits (DV.clrs xs) ys
 | [],ys,h=>by simpa only[DV.fits,DV.clrs]using h
 |x::xs,ys,h=>by
  simp only[DV.fits,DV.clrs]at h⊢
  obtain⟨v,vs,rfl,e,g⟩:=h;exact⟨v,vs,rfl,DV.qde x v e,DV.qbF xs vs g⟩
end
mutual
theorem DV.qbN:∀(x v:DV),x.clr.own v=[]
 | .sl g xs,v=>by cases v<;>simp[DV.clr,DV.own,DV.qfG xs,U]
 | .agg cs,v=>by cases v<;>simp[DV.clr,DV.own,DV.qfG cs]
 | .tup cs,v=>by cases v<;>simp[DV.clr,DV.own,DV.qfG cs]
 | .int k n,v=>by cases v<;>simp[DV.clr,DV.own]
 | .bool b,v=>by cases v<;>simp[DV.clr,DV.own]
 | .str s,v=>by cases v<;>simp[DV.clr,DV.own]
theorem DV.qfG:∀(xs ys:aw),DV.owns (DV.clrs xs) ys=[]
 | [],ys=>by simp[DV.clrs,DV.owns]
 |x::xs,ys=>by cases ys<;>simp[DV.clrs,DV.owns,DV.qbN x,DV.qfG xs]
end
mutual
theorem DV.qbf:∀(x:DV),x.clr.fit x
 | .sl g xs=>by simp only[DV.clr,DV.fit];exact⟨_,_,rfl,DV.qcA xs,.inl rfl⟩
 | .agg cs=>by simp only[DV.clr,DV.fit];exact⟨_,rfl,DV.qcA cs⟩
 | .tup cs=>by simp only[DV.clr,DV.fit];exact⟨_,rfl,DV.qcA cs⟩
 | .int k n=>by simp[DV.clr,DV.fit]
 | .bool b=>by simp[DV.clr,DV.fit]
 | .str s=>by simp[DV.clr,DV.fit]
theorem DV.qcA:∀(xs:aw),DV.fits (DV.clrs xs) xs
 | []=>by simp[DV.clrs,DV.fits]
 |x::xs=>by simp only[DV.clrs,DV.fits];exact⟨_,_,rfl,DV.qbf x,DV.qcA xs⟩
end
theorem DV.qay:∀l:aw,DV.clrs l=l.map DV.clr
 | []=>by simp[DV.clrs]
 |x::xs=>by simp[DV.clrs,DV.qay xs]
theorem AV.qay:∀l:aG,AV.clrs l=l.map AV.clr
 | []=>by simp[AV.clrs]
 |x::xs=>by simp[AV.clrs,AV.qay xs]
theorem DV.qbq:∀(xs ys:aw),DV.fits xs ys↔xs.length=ys.length/\∀(i:Nat) (x y:DV),xs[i]?=some x->ys[i]?=some y->x.fit y
 | [],ys=>by
  simp only[DV.fits];constructor
  ·rintro rfl;simp
  ·rintro⟨h,_⟩;exact gS.1 h.symm
 |x::xs,ys=>by
  simp only[DV.fits];constructor
  ·rintro⟨v,vs,rfl,m,q⟩
   obtain⟨r,u⟩:=(DV.qbq xs vs).1 q;refine⟨by simp[r],fun i a b e g=> ?_⟩;cases i with
   |zero=>simp at e g;subst e;subst g;exact m
   |succ i=>simp at e g;exact u i a b e g
  ·rintro⟨m,q⟩
   cases ys with
   |nil=>simp at m
   |cons y ys=>exact⟨y,ys,rfl,q 0 x y rfl rfl,(DV.qbq xs ys).2 ⟨by simpa using m,fun i a b e g=>q (i+1) a b (by simpa using e) (by simpa using g)⟩⟩
theorem AV.qbq:∀(xs ys:aG),AV.fits xs ys↔xs.length=ys.length/\∀(i:Nat) (x y:AV),xs[i]?=some x->ys[i]?=some y->x.fit y
 | [],ys=>by
  simp only[AV.fits];constructor
  ·rintro rfl;simp
  ·rintro⟨h,_⟩;exact gS.1 h.symm
 |x::xs,ys=>by
  simp only[AV.fits];constructor
  ·rintro⟨v,vs,rfl,m,q⟩
   obtain⟨r,u⟩:=(AV.qbq xs vs).1 q;refine⟨by simp[r],fun i a b e g=> ?_⟩;cases i with
   |zero=>simp at e g;subst e;subst g;exact m
   |succ i=>simp at e g;exact u i a b e g
  ·rintro⟨m,q⟩
   cases ys with
   |nil=>simp at m
   |cons y ys=>exact⟨y,ys,rfl,q 0 x y rfl rfl,(AV.qbq xs ys).2 ⟨by simpa using m,fun i a b e g=>q (i+1) a b (by simpa using e) (by simpa using g)⟩⟩
variable{xs ys:aw}
theorem DV.qao(h:DV.fits xs ys):xs.length=ys.length:=((DV.qbq xs ys).1 h).1
theorem AV.qao{xs ys:aG}(h:AV.fits xs ys):xs.length=ys.length:=((AV.qbq xs ys).1 h).1
variable{i:Nat}
theorem DV.qb2(h:DV.fits xs ys){x:DV}(hx:xs[i]?=some x):∃y,ys[i]?=some y/\x.fit y:=by
 obtain⟨g,m⟩:=(DV.qbq xs ys).1 h;have e:i<ys.length:=by rw[<-g];exact(cw.1 hx).1
 exact⟨ys[i],by simp[e],m i x _ hx (by simp[e])⟩
theorem AV.qb2{xs ys:aG}(h:AV.fits xs ys){x:AV}(hx:xs[i]?=some x):∃y,ys[i]?=some y/\x.fit y:=by
 obtain⟨g,m⟩:=(AV.qbq xs ys).1 h;have e:i<ys.length:=by rw[<-g];exact(cw.1 hx).1
 exact⟨ys[i],by simp[e],m i x _ hx (by simp[e])⟩
variable{b c d:aw}
theorem DV.qa6{a:aw}(e:DV.fits a c)(h:DV.fits b d):DV.fits (a++b) (c++d):=by
 induction a generalizing c with
 |nil=>simp only[DV.fits]at e;subst e;simpa using h
 |cons x xs q=>simp only[DV.fits]at e;obtain⟨v,vs,rfl,g,m⟩:=e;simp only[c9,DV.fits];exact⟨v,vs++d,rfl,g,q m⟩
theorem AV.qa6{a b c d:aG}(e:AV.fits a c)(h:AV.fits b d):AV.fits (a++b) (c++d):=by
 induction a generalizing c with
 |nil=>simp only[AV.fits]at e;subst e;simpa using h
 |cons x xs q=>simp only[AV.fits]at e;obtain⟨v,vs,rfl,g,m⟩:=e;simp only[c9,AV.fits];exact⟨v,vs++d,rfl,g,q m⟩
theorem DV.qbp{a:aw}(h:DV.fits a c)(n:Nat):DV.fits (a.take n) (c.take n):=by
 induction a generalizing c n with
 |nil=>simp only[DV.fits]at h;subst h;simp[DV.fits]
 |cons x xs m=>
  simp only[DV.fits]at h;obtain⟨v,vs,rfl,e,g⟩:=h;cases n with
  |zero=>simp[DV.fits]
  |succ n=>simp only[Bz,DV.fits];exact⟨_,_,rfl,e,m g n⟩
theorem DV.qbw{a:aw}(h:DV.fits a c)(n:Nat):DV.fits (a.drop n) (c.drop n):=by
 induction a generalizing c n with
 |nil=>simp only[DV.fits]at h;subst h;simp[DV.fits]
 |cons x xs g=>
  have h':=h;simp only[DV.fits]at h;obtain⟨v,vs,rfl,m,e⟩:=h;cases n with
  |zero=>simpa using h'
  |succ n=>simpa using g e n
theorem AV.qbp{a c:aG}(h:AV.fits a c)(n:Nat):AV.fits (a.take n) (c.take n):=by
 induction a generalizing c n with
 |nil=>simp only[AV.fits]at h;subst h;simp[AV.fits]
 |cons x xs m=>
  simp only[AV.fits]at h;obtain⟨v,vs,rfl,e,g⟩:=h;cases n with
  |zero=>simp[AV.fits]
  |succ n=>simp only[Bz,AV.fits];exact⟨_,_,rfl,e,m g n⟩
theorem AV.qbw{a c:aG}(h:AV.fits a c)(n:Nat):AV.fits (a.drop n) (c.drop n):=by
 induction a generalizing c n with
 |nil=>simp only[AV.fits]at h;subst h;simp[AV.fits]
 |cons x xs g=>
  have h':=h;simp only[AV.fits]at h;obtain⟨v,vs,rfl,m,e⟩:=h;cases n with
  |zero=>simpa using h'
  |succ n=>simpa using g e n
theorem DV.qa0{a:aw}(h:a.length=c.length):DV.owns (a++b) (c++d)=DV.owns a c++DV.owns b d:=by
 induction a generalizing c with
 |nil=>cases c with
  |nil=>simp[DV.owns]
  |cons _ _=>simp at h
 |cons x xs e=>cases c with
  |nil=>simp at h
  |cons y ys=>simp[DV.owns,e (c:=ys) (by simpa using h),bX]
theorem AV.qa0{a b c d:aG}(h:a.length=c.length):AV.owns (a++b) (c++d)=AV.owns a c++AV.owns b d:=by
 induction a generalizing c with
 |nil=>cases c with
  |nil=>simp[AV.owns]
  |cons _ _=>simp at h
 |cons x xs e=>cases c with
  |nil=>simp at h
  |cons y ys=>simp[AV.owns,e (c:=ys) (by simpa using h),bX]
theorem DV.qb1{a:aw}(h:a.length=c.length)(n:Nat):DV.owns a c=DV.owns (a.take n) (c.take n)++DV.owns (a.drop n) (c.drop n):=by rw[<-DV.qa0 (by simp[h]),dJ,dJ]
theorem AV.qb1{a c:aG}(h:a.length=c.length)(n:Nat):AV.owns a c=AV.owns (a.take n) (c.take n)++AV.owns (a.drop n) (c.drop n):=by rw[<-AV.qa0 (by simp[h]),dJ,dJ]
theorem DV.qb7{x y:DV}(hx:xs[i]?=some x)(hy:ys[i]?=some y):(x.own y).Sublist (DV.owns xs ys):=by
 induction xs generalizing ys i with
 |nil=>simp at hx
 |cons a as e=>cases ys with
  |nil=>simp at hy
  |cons b bs=>cases i with
   |zero=>simp at hx hy;subst hx;subst hy;simp[DV.owns]
   |succ i=>simp at hx hy;simp only[DV.owns];exact(e hx hy).trans (j6 _ _)
theorem AV.qb7{xs ys:aG}{x y:AV}(hx:xs[i]?=some x)(hy:ys[i]?=some y):(x.own y).Sublist (AV.owns xs ys):=by
 induction xs generalizing ys i with
 |nil=>simp at hx
 |cons a as e=>cases ys with
  |nil=>simp at hy
  |cons b bs=>cases i with
   |zero=>simp at hx hy;subst hx;subst hy;simp[AV.owns]
   |succ i=>simp at hx hy;simp only[AV.owns];exact(e hx hy).trans (j6 _ _)
theorem DV.qbe{x v:DV}(h:x.fit v):DV.fits x.cells v.cells:=by
 cases x<;>simp only[DV.fit]at h
 case agg cs=>obtain⟨ds,rfl,e⟩:=h;exact e
 case sl g xs=>obtain⟨g',ys,rfl,e,m⟩:=h;simp only[DV.cells,DV.fits];exact⟨_,_,rfl,by simp only[DV.fit];exact⟨_,_,rfl,e,m⟩,rfl⟩
 case tup cs=>obtain⟨ds,rfl,e⟩:=h;simp only[DV.cells,DV.fits];exact⟨_,_,rfl,by simp only[DV.fit];exact⟨_,rfl,e⟩,rfl⟩
 all_goals subst h;simp[DV.cells,DV.fits,DV.fit]
theorem DV.qdJ{x v:DV}(h:x.fit v):DV.owns x.cells v.cells=x.own v:=by
 cases x<;>simp only[DV.fit]at h
 case agg cs=>obtain⟨ds,rfl,e⟩:=h;simp[DV.cells,DV.own]
 case sl g xs=>obtain⟨g',ys,rfl,e,m⟩:=h;simp[DV.cells,DV.owns]
 case tup cs=>obtain⟨ds,rfl,e⟩:=h;simp[DV.cells,DV.owns]
 all_goals subst h;simp[DV.cells,DV.owns]
theorem DV.qeQ{x v:DV}(h:x.fit v):v.isCell=x.isCell:=by
 cases x<;>simp only[DV.fit]at h
 case agg cs=>obtain⟨ds,rfl,e⟩:=h;rfl
 case sl g xs=>obtain⟨g',ys,rfl,e,m⟩:=h;rfl
 case tup cs=>obtain⟨ds,rfl,e⟩:=h;rfl
 all_goals subst h;rfl
variable{vs:aw}
theorem DV.qdd(h:DV.fits xs vs):vs.all DV.isCell=xs.all DV.isCell:=by
 induction xs generalizing vs with
 |nil=>simp only[DV.fits]at h;subst h;rfl
 |cons x xs g=>simp only[DV.fits]at h;obtain⟨v,r,rfl,e,m⟩:=h;simp[DV.qeQ e,g m]
theorem DV.qbG{x v:DV}(h:x.fit v):v.cells.length=x.cells.length:=(DV.qao (DV.qbe h)).symm
variable{v:AV}
theorem AV.qeQ{x:AV}(h:x.fit v):v.isCell=x.isCell:=by
 cases x<;>simp only[AV.fit]at h
 case d x=>obtain⟨y,rfl,e⟩:=h;exact DV.qeQ e
 case ep=>obtain⟨_,rfl,_⟩:=h;rfl
 case fn=>obtain⟨_,rfl,_⟩:=h;rfl
 case bsl=>obtain⟨_,rfl⟩:=h;rfl
 case ag=>obtain⟨_,rfl,_⟩:=h;rfl
 all_goals subst h;rfl
theorem AV.qdd{xs vs:aG}(h:AV.fits xs vs):vs.all AV.isCell=xs.all AV.isCell:=by
 induction xs generalizing vs with
 |nil=>simp only[AV.fits]at h;subst h;rfl
 |cons x xs m=>simp only[AV.fits]at h;obtain⟨v,r,rfl,e,g⟩:=h;simp[AV.qeQ e,m g]
theorem AV.qqE(h:DV.fits xs vs):AV.fits (xs.map .d) (vs.map .d):=by
 induction xs generalizing vs with
 |nil=>simp only[DV.fits]at h;subst h;simp[AV.fits]
 |cons x xs g=>simp only[DV.fits]at h;obtain⟨v,r,rfl,e,m⟩:=h;simp only[bF,AV.fits];exact⟨_,_,rfl,by simp only[AV.fit];exact⟨_,rfl,e⟩,g m⟩
theorem AV.qqD:AV.owns (xs.map .d) (vs.map .d)=DV.owns xs vs:=by
 induction xs generalizing vs with
 |nil=>simp[AV.owns,DV.owns]
 |cons x xs e=>cases vs<;>simp[AV.owns,DV.owns,AV.own,e]
theorem AV.qeN{x:AV}(h:x.fit v):AV.fits [x] [v]:=by simp only[AV.fits];exact⟨_,_,rfl,h,rfl⟩
theorem AV.qbe{x:AV}(h:x.fit v):AV.fits x.cells v.cells:=by
 have m:=h;cases x<;>simp only[AV.fit]at h
 case d x=>
  obtain⟨y,rfl,e⟩:=h;cases x<;>simp only[DV.fit]at e
  case agg cs=>obtain⟨ds,rfl,e⟩:=e;exact AV.qqE e
  case sl g xs=>obtain⟨g',ys,rfl,q,r⟩:=e;exact AV.qeN m
  case tup cs=>obtain⟨ds,rfl,e⟩:=e;exact AV.qeN m
  all_goals subst e;exact AV.qeN m
 case ep=>obtain⟨_,rfl,_⟩:=h;exact AV.qeN m
 case fn=>obtain⟨_,rfl,_⟩:=h;exact AV.qeN m
 case bsl=>obtain⟨_,rfl⟩:=h;exact AV.qeN m
 case ag t cs=>
  obtain⟨_,rfl,e,_⟩:=h;cases t with
  |false=>exact e
  |true=>exact AV.qeN m
 all_goals subst h;exact AV.qeN m
theorem AV.qdJ{x:AV}(h:x.fit v):AV.owns x.cells v.cells=x.own v:=by
 cases x<;>simp only[AV.fit]at h
 case d x=>
  obtain⟨y,rfl,e⟩:=h;cases x<;>simp only[DV.fit]at e
  case agg cs=>obtain⟨ds,rfl,e⟩:=e;simp[AV.cells,AV.own,DV.own,AV.qqD]
  case sl g xs=>obtain⟨g',ys,rfl,q,r⟩:=e;simp[AV.cells,AV.owns]
  case tup cs=>obtain⟨ds,rfl,e⟩:=e;simp[AV.cells,AV.owns]
  all_goals subst e;simp[AV.cells,AV.owns]
 case ep=>obtain⟨_,rfl,_⟩:=h;simp[AV.cells,AV.owns]
 case fn=>obtain⟨_,rfl,_⟩:=h;simp[AV.cells,AV.owns]
 case bsl=>obtain⟨_,rfl⟩:=h;simp[AV.cells,AV.owns]
 case ag t cs=>
  obtain⟨_,rfl,e,m⟩:=h;cases t with
  |false=>simp[AV.cells,AV.own,m]
  |true=>simp[AV.cells,AV.owns]
 all_goals subst h;simp[AV.cells,AV.owns]
theorem AV.qbG{x:AV}(h:x.fit v):v.cells.length=x.cells.length:=(AV.qao (AV.qbe h)).symm
mutual
theorem AV.qde:∀(x v:AV),x.fit v->x.clr.fit v
 | .d x,v,h=>by
  simp only[AV.fit,AV.clr]at h⊢
  obtain⟨y,rfl,e⟩:=h;exact⟨y,rfl,DV.qde _ _ e⟩
 | .ep cs,v,h=>by
  simp only[AV.fit,AV.clr]at h⊢
  obtain⟨ds,rfl,e⟩:=h;exact⟨ds,rfl,DV.qbF _ _ e⟩
 | .fn f cap,v,h=>by
  simp only[AV.fit,AV.clr]at h⊢
  obtain⟨ds,rfl,e,_⟩:=h;obtain⟨m,g⟩:=AV.qbF cap ds e;exact⟨ds,rfl,m,g⟩
 | .ptr i o,v,h=>by simpa only[AV.clr]using h
 | .nilp,v,h=>by simpa only[AV.clr]using h
 | .bsl id a i sz n,v,h=>by simpa only[AV.clr]using h
 | .tsl a i sz n,v,h=>by simpa only[AV.clr]using h
 | .ag t cap,v,h=>by
  simp only[AV.fit,AV.clr]at h⊢
  obtain⟨ds,rfl,e,_⟩:=h;obtain⟨m,g⟩:=AV.qbF cap ds e;exact⟨ds,rfl,m,g⟩
 | .und,v,h=>by simpa only[AV.clr]using h
theorem AV.qbF:∀(xs vs:aG),AV.fits xs vs->AV.fits (AV.clrs xs) vs/\AV.owns (AV.clrs xs) vs=[]
 | [],vs,h=>by simp only[AV.fits,AV.clrs,AV.owns]at h⊢;exact⟨h,trivial⟩
 |x::xs,vs,h=>by
  simp only[AV.fits,AV.clrs]at h⊢
  obtain⟨v,vs,rfl,e,q⟩:=h;obtain⟨g,m⟩:=AV.qbF xs vs q;refine⟨⟨v,vs,rfl,AV.qde x v e,g⟩,?_⟩;simp only[AV.owns,m,cS];cases x<;>cases v<;>simp[AV.clr,AV.own,DV.qbN,DV.qfG]
end
theorem AV.qbN(x v:AV):x.clr.own v=[]:=by cases x<;>cases v<;>simp[AV.clr,AV.own,DV.qbN,DV.qfG]
mutual
theorem AV.ql5(m:Nat):∀(x v:AV),x.fit v->v.safe m=x.safe m
 | .d x,v,h=>by simp only[AV.fit]at h;obtain⟨y,rfl,_⟩:=h;unfold AV.safe;rfl
 | .ep cs,v,h=>by simp only[AV.fit]at h;obtain⟨y,rfl,_⟩:=h;unfold AV.safe;rfl
 | .fn f cap,v,h=>by simp only[AV.fit]at h;obtain⟨y,rfl,e,_⟩:=h;rw[AV.safe,AV.safe];exact AV.qnY m cap y e
 | .ptr i o,v,h=>by simp only[AV.fit]at h;subst h;rfl
 | .nilp,v,h=>by simp only[AV.fit]at h;subst h;rfl
 | .bsl id a i sz n,v,h=>by simp only[AV.fit]at h;obtain⟨_,rfl⟩:=h;unfold AV.safe;rfl
 | .tsl a i sz n,v,h=>by simp only[AV.fit]at h;subst h;rfl
 | .ag t cap,v,h=>by simp only[AV.fit]at h;obtain⟨y,rfl,e,_⟩:=h;rw[AV.safe,AV.safe];exact AV.qnY m cap y e
 | .und,v,h=>by simp only[AV.fit]at h;subst h;rfl
theorem AV.qnY(m:Nat):∀(xs vs:aG),AV.fits xs vs->AV.safe.safes m vs=AV.safe.safes m xs
 | [],vs,h=>by simp only[AV.fits]at h;subst h;rfl
 |x::xs,vs,h=>by simp only[AV.fits]at h;obtain⟨v,vs,rfl,e,g⟩:=h;rw[AV.safe.safes,AV.safe.safes,AV.ql5 m x v e,AV.qnY m xs vs g]
end
mutual
theorem DV.qiZ:∀x:DV,x.clr.clr=x.clr
 | .sl g xs=>by simp only[DV.clr,DV.qcB xs]
 | .agg cs=>by simp only[DV.clr,DV.qcB cs]
 | .tup cs=>by simp only[DV.clr,DV.qcB cs]
 | .int k n=>by simp only[DV.clr]
 | .bool b=>by simp only[DV.clr]
 | .str s=>by simp only[DV.clr]
theorem DV.qcB:∀l:aw,DV.clrs (DV.clrs l)=DV.clrs l
 | []=>by simp only[DV.clrs]
 |x::xs=>by simp only[DV.clrs,DV.qiZ x,DV.qcB xs]
end
mutual
theorem AV.qiZ:∀x:AV,x.clr.clr=x.clr
 | .d x=>by simp only[AV.clr,DV.qiZ]
 | .ep cs=>by simp only[AV.clr,DV.qcB]
 | .fn f cap=>by simp only[AV.clr,AV.qcB cap]
 | .ptr i o=>by simp only[AV.clr]
 | .nilp=>by simp only[AV.clr]
 | .bsl id a i sz n=>by simp only[AV.clr]
 | .tsl a i sz n=>by simp only[AV.clr]
 | .ag t cap=>by simp only[AV.clr,AV.qcB cap]
 | .und=>by simp only[AV.clr]
theorem AV.qcB:∀l:aG,AV.clrs (AV.clrs l)=AV.clrs l
 | []=>by simp only[AV.clrs]
 |x::xs=>by simp only[AV.clrs,AV.qiZ x,AV.qcB xs]
end
mutual
theorem AV.qbf:∀(x:AV),x.clr.fit x
 | .d x=>by simp only[AV.fit,AV.clr];exact⟨_,rfl,DV.qbf x⟩
 | .ep cs=>by simp only[AV.fit,AV.clr];exact⟨_,rfl,DV.qcA _⟩
 | .fn f cap=>by simp only[AV.fit,AV.clr];exact⟨_,rfl,AV.qcA cap,(AV.qnZ cap)⟩
 | .ptr i o=>by simp[AV.fit,AV.clr]
 | .nilp=>by simp[AV.fit,AV.clr]
 | .bsl id a i sz n=>by simp[AV.fit,AV.clr]
 | .tsl a i sz n=>by simp[AV.fit,AV.clr]
 | .ag t cap=>by simp only[AV.fit,AV.clr];exact⟨_,rfl,AV.qcA cap,(AV.qnZ cap)⟩
 | .und=>by simp[AV.fit,AV.clr]
theorem AV.qcA:∀(xs:aG),AV.fits (AV.clrs xs) xs
 | []=>by simp[AV.fits,AV.clrs]
 |x::xs=>by simp only[AV.fits,AV.clrs];exact⟨_,_,rfl,AV.qbf x,AV.qcA xs⟩
theorem AV.qnZ:∀(xs:aG),AV.owns (AV.clrs xs) xs=[]
 | []=>by simp[AV.owns,AV.clrs]
 |x::xs=>by simp only[AV.owns,AV.clrs];rw[AV.qbN,AV.qnZ xs];rfl
end
theorem DV.qLt(v:DV):v.cn1.fit v:=by
 unfold DV.cn1;split
 ·simp only[DV.fit,DV.fits];exact⟨_,_,rfl,rfl,.inr ⟨rfl,.inl ⟨rfl,.inl rfl⟩⟩⟩
 ·exact DV.qbf _
theorem DV.qLs(v w:DV):v.cn1.own w=[]:=by
 unfold DV.cn1;split
 ·cases w<;>simp[DV.own,DV.owns]
 ·exact DV.qbN _ _
theorem DV.qkd:∀l:aw,DV.fits (l.map DV.cn1) l
 | []=>by simp[DV.fits]
 |x::xs=>by simp only[bF,DV.fits];exact⟨_,_,rfl,DV.qLt x,DV.qkd xs⟩
theorem DV.qin:∀l m:aw,DV.owns (l.map DV.cn1) m=[]
 | [],m=>by simp[DV.owns]
 |x::xs,m=>by cases m<;>simp[DV.owns,DV.qLs,DV.qin xs]
theorem DV.qvn(v:DV):v.cn.fit v:=by
 unfold DV.cn;split
 ·simp only[DV.fit];exact⟨_,rfl,DV.qkd _⟩
 ·exact DV.qLt _
theorem DV.qLr(v w:DV):v.cn.own w=[]:=by
 unfold DV.cn;split
 ·cases w<;>simp[DV.own,DV.qin]
 ·exact DV.qLs _ _
theorem DV.qdK(e:DV):e.clr.cells=DV.clrs e.cells:=by cases e<;>simp[DV.clr,DV.cells,DV.clrs]
theorem DV.qcD(l:aw):(DV.clrs l).length=l.length:=by simp[DV.qay]
theorem AV.qcD(l:aG):(AV.clrs l).length=l.length:=by simp[AV.qay]
def gh(rx rv:aI):Prop:=∀t x,lk rx t=some x->∃v,lk rv t=some v/\x.clr.fit v
variable{x:VX}{rx rv:aI}
theorem oo(h:gh rx rv){a:AV}(hx:x.get rx=some a):∃v,x.get rv=some v/\a.clr.fit v:=by
 cases x with
 |t n=>exact h n a hx
 |c v=>simp[VX.get]at hx⊢;subst hx;exact AV.qbf _
theorem rn(h:gh rx rv){a:DV}(hx:x.get rx=some (.d a)):∃v,x.get rv=some (.d v)/\a.clr.fit v:=by obtain⟨v,g,e⟩:=oo h hx;simp only[AV.clr,AV.fit]at e;obtain⟨y,rfl,m⟩:=e;exact⟨y,g,m⟩
theorem lS(h:gh rx rv){k:IntKind}{n:Int}(hx:x.get rx=some (.d (.int k n))):x.get rv=some (.d (.int k n)):=by obtain⟨v,g,e⟩:=rn h hx;simp only[DV.clr,DV.fit]at e;subst e;exact g
theorem Fz(h:gh rx rv){b:Bool}(hx:x.get rx=some (au b)):x.get rv=some (au b):=by obtain⟨v,g,e⟩:=rn h hx;simp only[DV.clr,DV.fit]at e;subst e;exact g
theorem Hg(h:gh rx rv){b:ByteArray}(hx:x.get rx=some (.d (.str b))):x.get rv=some (.d (.str b)):=by obtain⟨v,g,e⟩:=rn h hx;simp only[DV.clr,DV.fit]at e;subst e;exact g
variable{l:aw}
theorem Av(h:gh rx rv){g:Tag}(hx:x.get rx=some (.d (.sl g l))):∃g' ys,x.get rv=some (.d (.sl g' ys))/\DV.fits (DV.clrs l) ys:=by obtain⟨v,m,e⟩:=rn h hx;simp only[DV.clr,DV.fit]at e;obtain⟨g',ys,rfl,q,_⟩:=e;exact⟨g',ys,m,q⟩
theorem K4(h:gh rx rv)(hx:x.get rx=some (.d (.agg l))):∃ys,x.get rv=some (.d (.agg ys))/\DV.fits (DV.clrs l) ys:=by obtain⟨v,g,e⟩:=rn h hx;simp only[DV.clr,DV.fit]at e;obtain⟨ys,rfl,m⟩:=e;exact⟨ys,g,m⟩
theorem He(h:gh rx rv){o:Nat}(hx:x.get rx=some (.ptr i o)):x.get rv=some (.ptr i o):=by obtain⟨v,g,e⟩:=oo h hx;simp only[AV.clr,AV.fit]at e;subst e;exact g
variable{n:Nat}
theorem Mk(h:gh rx rv){a:Bool}{s:Nat}(hx:x.get rx=some (.tsl a i s n)):x.get rv=some (.tsl a i s n):=by obtain⟨v,g,e⟩:=oo h hx;simp only[AV.clr,AV.fit]at e;subst e;exact g
theorem La(h:gh rx rv){id:Id}{a:Bool}{s:Nat}(hx:x.get rx=some (.bsl id a i s n)):∃e,x.get rv=some (.bsl e a i s n):=by obtain⟨v,m,g⟩:=oo h hx;simp only[AV.clr,AV.fit]at g;obtain⟨e,rfl⟩:=g;exact⟨e,m⟩
theorem HY(h:gh rx rv)(hx:x.get rx=some (.ep l)):∃ys,x.get rv=some (.ep ys)/\DV.fits (DV.clrs l) ys:=by obtain⟨v,g,e⟩:=oo h hx;simp only[AV.clr,AV.fit]at e;obtain⟨ys,rfl,m⟩:=e;exact⟨ys,g,m⟩
theorem qOJ{op:BinOp}{a b c a' b':DV}(e:a.clr.fit a')(g:b.clr.fit b')(h:mV op a b=some c):mV op a' b'=some c:=by cases a<;>cases b<;>simp only[mV]at h<;>(first|(simp at h;done)|skip)<;>simp only[DV.clr,DV.fit]at e g<;>subst e<;>subst g<;>exact h
theorem Vw:∀(ks:ae) (a b a' b':aw),DV.fits (DV.clrs a) a'->DV.fits (DV.clrs b) b'->∀r,eM ks a b=some r->eM ks a' b'=some r:=by
 intro ks a b
 fun_induction eM ks a b<;>intro a' b' q m r h<;>(first|(simp at h;done)|skip)
 all_goals simp only[DV.clrs,DV.fits]at q m
 case case1=>subst q;subst m;exact h
 all_goals
  obtain⟨v,vs,rfl,u,w⟩:=q;obtain⟨v',D,rfl,e,g⟩:=m;simp only[DV.clr,DV.fit]at u e;subst u;subst e
  simp_all[eM]
  try (obtain⟨c,H,G⟩:=h;rename_i C;rcases c with c|c;(exact .inl ((C _ _ w g).1 c));(exact .inr ((C _ _ w g).2 c)))
theorem Zq:∀(a a':aw),DV.fits (DV.clrs a) a'->∀r,bytesOf a=some r->bytesOf a'=some r:=by
 intro a
 fun_induction bytesOf a<;>intro a' e r h<;>(first|(simp at h;done)|skip)
 all_goals simp only[DV.clrs,DV.fits]at e
 case case1=>subst e;exact h
 all_goals
  obtain⟨v,vs,rfl,g,u⟩:=e;simp only[DV.clr,DV.fit]at g;subst g;rename_i w;obtain⟨q,m,rfl⟩:=aN.1 h;simp[bytesOf,w _ u _ m]
theorem JC(h:gh rx rv):∀{xs:cg} {as:aG},f0 rx xs=some as->∃vs,f0 rv xs=some vs/\AV.fits (AV.clrs as) vs
 | [],as,hx=>by simp[f0]at hx;subst hx;exact⟨[],rfl,by simp[AV.clrs,AV.fits]⟩
 |x::xs,as,hx=>by simp only[f0]at hx;obtain⟨a,m,q⟩:=aL.1 hx;obtain⟨r,u,rfl⟩:=aN.1 q;obtain⟨v,w,e⟩:=oo h m;obtain⟨vs,g,C⟩:=JC h u;exact⟨v::vs,by simp[f0,w,g],by simp only[AV.clrs,AV.fits];exact⟨_,_,rfl,e,C⟩⟩
theorem sS(h:gh rx rv){x:nW}{a:a8}(hx:eJ rx x=some a):∃v,eJ rv x=some v/\v.bind oQ=a.bind oQ/\(v=none↔a=none):=by
 cases x with
 |none=>simp[eJ]at hx;subst hx;exact⟨none,rfl,rfl,Iff.rfl⟩
 |some x=>
  simp only[eJ]at hx⊢
  obtain⟨a',g,rfl⟩:=aN.1 hx;obtain⟨v,m,e⟩:=oo h g;refine⟨some v,by simp[m],?_,by simp⟩;simp only[bO];cases a' with
  |d w=>
   cases w<;>simp only[AV.clr,DV.clr,AV.fit,DV.fit]at e
   case int k n=>obtain⟨y,rfl,rfl⟩:=e;rfl
   case sl=>obtain⟨y,rfl,_,_,rfl,_⟩:=e;rfl
   case agg=>obtain⟨y,rfl,_,rfl,_⟩:=e;rfl
   case tup=>obtain⟨y,rfl,_,rfl,_⟩:=e;rfl
   all_goals obtain⟨y,rfl,rfl⟩:=e;rfl
  |ep=>simp only[AV.clr,AV.fit]at e;obtain⟨_,rfl,_⟩:=e;rfl
  |fn=>simp only[AV.clr,AV.fit]at e;obtain⟨_,rfl,_⟩:=e;rfl
  |bsl=>simp only[AV.clr,AV.fit]at e;obtain⟨_,rfl⟩:=e;rfl
  |ag=>simp only[AV.clr,AV.fit]at e;obtain⟨_,rfl,_⟩:=e;rfl
  |_=>simp only[AV.clr,AV.fit]at e;subst e;rfl
theorem IX{a v:a8}(h:v.bind oQ=a.bind oQ)(h':v=none↔a=none)(n:Nat):hZ n v=hZ n a:=by
 cases a<;>cases v<;>simp at h h'
 ·rfl
 ·simp only[hZ,h]
theorem Eq{a v:a8}(h:v.bind oQ=a.bind oQ)(h':v=none↔a=none)(n:Nat):gL n v=gL n a:=by
 cases a<;>cases v<;>simp at h h'
 ·rfl
 ·simp only[gL,h]
def VOp.gen:VOp->Bool
 | .nilCheck _| .bin _ _ _| .eqAgg _ _ _ _| .eqB _ _ _| .not _| .conv _ _| .index _ _| .indexAddr _ _ _ _| .fieldAddr _ _| .slice _ _ _ _ _| .makeFunc _ _| .len _ _| .max _ _| .fail=>true
 |_=>false
variable{sz:Nat}
theorem MH(h:DV.fits (DV.clrs xs) ys)(hx:xs.all (fun e=>decide (e.cells.length=sz))=true):ys.all (fun e=>decide (e.cells.length=sz))=true:=by
 simp only[cm,cB]at hx⊢
 intro e q;obtain⟨i,hi⟩:=jC.1 q;obtain⟨m,u⟩:=(DV.qbq _ _).1 h;rw[DV.qcD]at m;have g:i<xs.length:=by rw[m];exact(cw.1 hi).1
 have r:=u i (xs[i].clr) e (by simp[DV.qay,g]) hi;rw[DV.qbG r,DV.qdK,DV.qcD];exact hx _ (gB g)
theorem Xa(h:gh rx rv){op:VOp}(hg:op.gen=true){a:AV}(q:bo rx op=some a):∃v,bo rv op=some v/\a.clr.fit v:=by
 cases op<;>simp only[VOp.gen]at hg<;>(first|(simp at hg;done)|skip)
 case nilCheck x=>
  simp only[bo]at q⊢
  split at q<;>(first|(simp at q;done)|skip)<;>rename_i r<;>simp at q<;>subst q
  ·rw[He h r];exact⟨_,rfl,AV.qbf _⟩
  ·obtain⟨ys,w,u⟩:=HY h r;rw[w]
   exact⟨_,rfl,by simp only[AV.clr,AV.fit];exact⟨_,rfl,u⟩⟩
  ·obtain⟨v,w,u⟩:=oo h r
   have Q:=u;simp only[AV.clr,AV.fit]at Q;obtain⟨c,rfl,_⟩:=Q
   rw[w];exact⟨_,rfl,u⟩
 case bin op x y=>
  simp only[bo]at q⊢
  split at q<;>(first|(simp at q;done)|skip)
  rename_i Z R r w;obtain⟨c,u,rfl⟩:=aN.1 q;obtain⟨v1,C,D⟩:=rn h r;obtain⟨v2,J,I⟩:=rn h w;rw[C,J];simp only[qOJ D I u,b9];exact⟨_,rfl,AV.qbf _⟩
 case eqAgg neg ks x y=>
  simp only[bo]at q⊢
  split at q<;>(first|(simp at q;done)|skip)
  rename_i Z R r w;obtain⟨c,u,rfl⟩:=aN.1 q;obtain⟨v1,C,D⟩:=K4 h r;obtain⟨v2,J,I⟩:=K4 h w;rw[C,J];simp only[Vw _ _ _ _ _ D I _ u,b9];exact⟨_,rfl,AV.qbf _⟩
 case eqB neg x y=>
  simp only[bo]at q⊢
  split at q<;>(first|(simp at q;done)|skip)
  rename_i Z R r w;simp at q;subst q
  rw[Fz h r,Fz h w];exact⟨_,rfl,AV.qbf _⟩
 case not x=>
  simp only[bo]at q⊢
  split at q<;>(first|(simp at q;done)|skip)
  rename_i R r;simp at q;subst q
  rw[Fz h r];exact⟨_,rfl,AV.qbf _⟩
 case conv c x=>
  cases c with
  |kind k=>
   simp only[bo]at q⊢
   split at q<;>(first|(simp at q;done)|skip)
   rename_i k1 n1 r;simp at q;subst q
   rw[lS h r];exact⟨_,rfl,AV.qbf _⟩
  |rune=>
   simp only[bo]at q⊢
   split at q<;>(first|(simp at q;done)|skip)
   rename_i k1 n1 r;simp at q;subst q
   rw[lS h r];exact⟨_,rfl,AV.qbf _⟩
  |bytes=>
   simp only[bo]at q⊢
   split at q<;>(first|(simp at q;done)|skip)
   rename_i g1 l1 r;obtain⟨c,u,rfl⟩:=aN.1 q;obtain⟨g',ys,C,D⟩:=Av h r;rw[C];simp only[Zq _ _ D _ u,b9];exact⟨_,rfl,AV.qbf _⟩
 case index x i=>
  simp only[bo]at q⊢
  split at q<;>(first|(simp at q;done)|skip)
  rename_i s k n r w;rw[Hg h r,lS h w];simp only;split at q
  ·rename_i u
   rw[ay u];obtain⟨b,C,rfl⟩:=aN.1 q;rw[C];exact⟨_,rfl,AV.qbf _⟩
  ·simp at q
 case indexAddr sz arr x i=>
  cases arr with
  |none=>
   simp only[bo]at q⊢
   split at q
   ·rename_i g l k n r w
    obtain⟨g',ys,C,D⟩:=Av h r;rw[C,lS h w];simp only;split at q
    ·rename_i u
     rw[ay u];obtain⟨e,J,I⟩:=aL.1 q;split at I
     ·rename_i O
      simp at I;subst I
      obtain⟨e',P,G⟩:=DV.qb2 D (x:=e.clr) (i:=n.toNat) (by simp[DV.qay,J]);have H:e'.cells.length=sz:=by rw[DV.qbG G,DV.qdK,DV.qcD];exact O.1
      rw[P];simp only[bO,H,O.2,eg,mq,xY,if_true];have K:=DV.qbe G;rw[DV.qdK]at K;exact⟨_,rfl,by simp only[AV.clr,AV.fit];exact⟨_,rfl,K⟩⟩
     ·simp at I
    ·simp at q
   ·rename_i id ag b s' m k n r w
    obtain⟨S,C⟩:=La h r;rw[C,lS h w];simp only;split at q
    ·rename_i u
     rw[ay u];simp at q;subst q
     exact⟨_,rfl,AV.qbf _⟩
    ·simp at q
   ·rename_i ag b s' m k n r w
    rw[Mk h r,lS h w];simp only;split at q
    ·rename_i u
     rw[ay u];simp at q;subst q
     exact⟨_,rfl,AV.qbf _⟩
    ·simp at q
   ·simp at q
  |some m=>
   simp only[bo]at q⊢
   split at q
   ·rename_i b o k n r w
    rw[He h r,lS h w];simp only;split at q
    ·rename_i u
     rw[ay u];simp at q;subst q
     exact⟨_,rfl,AV.qbf _⟩
    ·simp at q
   ·rename_i l k n r w
    obtain⟨ys,C,D⟩:=HY h r;rw[C,lS h w];simp only;have M:=DV.qao D;rw[DV.qcD]at M;split at q
    ·rename_i u
     rw[ay (by omega)];simp at q;subst q
     refine⟨_,rfl,?_⟩;simp only[AV.clr,AV.fit];have:=DV.qbw D (n.toNat*sz);rw[DV.qay,<-List.map_drop,<-DV.qay]at this;exact⟨_,rfl,this⟩
    ·simp at q
   ·simp at q
 case fieldAddr off x=>
  simp only[bo]at q⊢
  split at q
  ·rename_i b o r
   rw[He h r];simp at q;subst q
   exact⟨_,rfl,AV.qbf _⟩
  ·rename_i l r
   obtain⟨ys,C,D⟩:=HY h r;rw[C];simp only;have M:=DV.qao D;rw[DV.qcD]at M;split at q
   ·rename_i u
    rw[ay (by omega)];simp at q;subst q
    refine⟨_,rfl,?_⟩;simp only[AV.clr,AV.fit];have:=DV.qbw D off;rw[DV.qay,<-List.map_drop,<-DV.qay]at this;exact⟨_,rfl,this⟩
   ·simp at q
  ·simp at q
 case slice str sz x lo hi=>
  cases str with
  |true=>
   simp only[bo]at q⊢
   split at q<;>(first|(simp at q;done)|skip)
   rename_i s l' h' r w u;obtain⟨vl,C,D,J⟩:=sS h w;obtain⟨vh,I,O,P⟩:=sS h u;rw[Hg h r,C,I];simp only;rw[IX O P];obtain⟨hh,G,H⟩:=aL.1 q;rw[G];simp only[bO];rw[Eq D J];rw[H];obtain⟨ll,_,rfl⟩:=aN.1 H;exact⟨_,rfl,AV.qbf _⟩
  |false=>
   simp only[bo]at q⊢
   split at q<;>(first|(simp at q;done)|skip)
   rename_i g xs l' h' r w u;obtain⟨vl,C,D,J⟩:=sS h w;obtain⟨vh,I,O,P⟩:=sS h u;obtain⟨g',ys,K,N⟩:=Av h r;rw[K,C,I];simp only;have M:=DV.qao N;rw[DV.qcD]at M;split at q
   ·rename_i x2
    rw[ay (MH N x2),IX O P];obtain⟨hh,G,H⟩:=aL.1 q;rw[<-M,G];simp only[bO];rw[Eq D J];obtain⟨ll,x1,rfl⟩:=aN.1 H;rw[x1];refine⟨_,rfl,?_⟩;simp only[AV.clr,DV.clr,AV.fit,DV.fit];refine⟨_,rfl,_,_,rfl,?_,.inl rfl⟩;have:=DV.qbw (DV.qbp N hh) ll;rw[DV.qay,<-List.map_take,<-List.map_drop,<-DV.qay]at this;exact this
   ·simp at q
 case makeFunc f cs=>
  simp only[bo]at q⊢
  obtain⟨vs,r,rfl⟩:=aN.1 q;obtain⟨ws,w,u⟩:=JC h r;rw[w];refine⟨_,rfl,?_⟩;simp only[AV.clr,AV.fit];have:=AV.qbF _ _ u;refine⟨_,rfl,u,?_⟩;have Y:∀l:aG,AV.clrs (AV.clrs l)=AV.clrs l:=by
   intro l;simp only[AV.qay,eX]
   congr 1
   funext x
   exact AV.qiZ x
  rw[<-Y];exact this.2
 case len str x=>
  cases str with
  |true=>
   simp only[bo]at q⊢
   split at q<;>(first|(simp at q;done)|skip)
   rename_i s r;simp at q;subst q
   rw[Hg h r];exact⟨_,rfl,AV.qbf _⟩
  |false=>
   simp only[bo]at q⊢
   split at q<;>(first|(simp at q;done)|skip)
   ·rename_i g xs r
    simp at q;subst q
    obtain⟨g',ys,C,D⟩:=Av h r;have M:=DV.qao D;rw[DV.qcD]at M;rw[C,M];exact⟨_,rfl,AV.qbf _⟩
   ·rename_i r
    simp at q;subst q
    obtain⟨S,C⟩:=La h r;rw[C];exact⟨_,rfl,AV.qbf _⟩
   ·rename_i r
    simp at q;subst q
    rw[Mk h r];exact⟨_,rfl,AV.qbf _⟩
 case max x y=>
  simp only[bo]at q⊢
  split at q<;>(first|(simp at q;done)|skip)
  rename_i k Z k' R r w;rw[lS h r,lS h w];simp only;split at q
  ·rename_i u
   rw[ay u];simp at q;subst q
   exact⟨_,rfl,AV.qbf _⟩
  ·simp at q
 case fail=>simp[bo]at q
open Classical
inductive Loc where
 |reg (t:Nat)
 |box (i:Nat)
def bD(B Bv:az)(i:Nat):eU:=
 match b5 B i,b5 Bv i with
 |some cs,some ds=>AV.owns cs ds
 |_,_=>[]
def bp(rx rv:aI)(t:Nat):eU:=
 match lk rx t,lk rv t with
 |some x,some v=>x.own v
 |_,_=>[]
def aU(rx:aI)(B:az)(rv:aI)(Bv:az):Loc->eU
 | .reg t=>bp rx rv t
 | .box i=>bD B Bv i
def Fut(p:Id)(k:Nat)(a:Id):Prop:=∃q j,k<=j/\a=q++j::p
variable{a p:Id}{k k':Nat}
theorem Fut.le(h:k<=k')(m:Fut p k' a):Fut p k a:=by obtain⟨q,j,e,g⟩:=m;exact⟨q,j,eG h e,g⟩
theorem Fut.sub{c:Nat}(g:Fut ((c+i)::p) 0 a):Fut p (c+i) a:=by obtain⟨q,j,h,e⟩:=g;exact⟨q++[j],c+i,bI _,by rw[e];simp⟩
theorem Fut.qse{c:Nat}(u:c+i<k)(r:Fut ((c+i)::p) 0 a):¬Fut p k a:=by
 obtain⟨q,j,C,m⟩:=r
 rintro⟨w,G,D,e⟩
 rw[m]at e;have g:q++j::(c+i)::p=(q++[j])++((c+i)::p):=by simp
 rw[g]at e;obtain⟨_,h⟩:=List.append_inj' e (by simp);simp at h;omega
theorem Fut.self(p:Id)(k:Nat):Fut p k (k::p):=⟨[],k,bI _,rfl⟩
theorem Fut.qsd(h:k<k'):¬Fut p k' (k::p):=by
 rintro⟨q,j,r,e⟩
 have m:k::p=[]++(k::p):=rfl;rw[m]at e;obtain⟨_,g⟩:=List.append_inj' e (by simp);simp at g;omega
structure Held(F Fu:Id->Prop)(A:Ids)(own:Loc->eU):Prop where
 nodup:∀ℓ,(own ℓ).Nodup
 apart:∀ℓ ℓ' a,a∈own ℓ->a∈own ℓ'->ℓ=ℓ'
 opn:∀ℓ a,a∈own ℓ->A a=true/\¬F a/\¬Fu a
 fr:∀a,F a->A a=true/\¬Fu a
variable{own':Loc->eU}{A A':Ids}{F Fu Fu':Id->Prop}
theorem Held.set{own:Loc->eU}(h:Held F Fu A own)(ℓ0:Loc)
 (e:∀ℓ,ℓ≠ℓ0->(own' ℓ).Sublist (own ℓ)) (C:(own' ℓ0).Nodup)
 (m:∀a,a∈own' ℓ0->A' a=true/\¬F a/\¬Fu' a/\∀ℓ,ℓ≠ℓ0->a∉own' ℓ)
 (K:∀ℓ,ℓ≠ℓ0->∀a,a∈own' ℓ->A' a=true) (I:∀a,F a->A' a=true) (w:∀a,Fu' a->Fu a):Held F Fu' A' own':=by
 refine⟨fun ℓ=> ?_,fun ℓ ℓ' a r u=> ?_,fun ℓ a r=> ?_,fun a r=>⟨I a r,fun G=>(h.fr a r).2 (w a G)⟩⟩
 ·by_cases g:ℓ=ℓ0
  ·subst g;exact C
  ·exact(h.nodup ℓ).sublist (e ℓ g)
 ·by_cases g:ℓ=ℓ0
  ·by_cases q:ℓ'=ℓ0
   ·rw[g,q]
   ·subst g
    exact absurd u ((m a r).2.2.2 ℓ' q)
  ·by_cases q:ℓ'=ℓ0
   ·subst q
    exact absurd r ((m a u).2.2.2 ℓ g)
   ·exact h.apart ℓ ℓ' a ((e ℓ g).subset r) ((e ℓ' q).subset u)
 ·by_cases g:ℓ=ℓ0
  ·subst g
   obtain⟨J,D,H,_⟩:=m a r;exact⟨J,D,H⟩
  ·obtain⟨_,D,H⟩:=h.opn ℓ a ((e ℓ g).subset r)
   exact⟨K ℓ g a r,D,fun G=>H (w a G)⟩
theorem Held.shrink{own:Loc->eU}(h:Held F Fu A own)
 (e:∀ℓ,(own' ℓ).Sublist (own ℓ)) (C:∀a,A a=true->(F a\/∃ℓ,a∈own' ℓ)->A' a=true) (m:∀a,Fu' a->Fu a):Held F Fu' A' own':=by
 refine⟨fun ℓ=>(h.nodup ℓ).sublist (e ℓ),fun ℓ ℓ' a g r=>h.apart ℓ ℓ' a ((e ℓ).subset g) ((e ℓ').subset r),fun ℓ a g=> ?_,fun a g=> ?_⟩
 ·obtain⟨q,w,D⟩:=h.opn ℓ a ((e ℓ).subset g)
  exact⟨C a q (.inr ⟨ℓ,g⟩),w,fun u=>D (m a u)⟩
 ·obtain⟨q,w⟩:=h.fr a g
  exact⟨C a q (.inl g),fun u=>w (m a u)⟩
def qbv(B Bv:az):Prop:=B.length=Bv.length/\∀i:Nat,(B[i]?=some none->Bv[i]?=some none)/\∀cs,B[i]?=some (some cs)->∃ds,Bv[i]?=some (some ds)/\AV.fits cs ds
structure Rel(A0:Ids)(T:ae)(F:Id->Prop)(p:Id)(k:Nat)(sx:XS)(sv:St):Prop where
 regs:∀t x,lk sx.r t=some x->∃v,lk sv.r t=some v/\x.fit v
 boxes:qbv sx.B sv.B
 held:Held F (Fut p k) sv.A (aU sx.r sx.B sv.r sv.B)
 nl:∀t,T.contains t=false->bp sx.r sv.r t=[]
 no:∀t,lk sx.r t=none->lk sv.r t=none
 am:∀a,sv.A a=true->¬Fut p k a/\(A0 a=true\/Fut p 0 a)
variable{Bv:az}
theorem qbv.free{B:az}(h:qbv B Bv)(i:Nat):eK Bv i=eK B i:=by
 obtain⟨m,e⟩:=h;unfold eK;cases hb:B[i]? with
 |none=>
  have:Bv[i]?=none:=by have:=AR.1 hb;exact jm (by omega)
  simp[this]
 |some o=>cases o with
  |none=>rw[(e i).1 hb]
  |some cs=>obtain⟨ds,g,_⟩:=(e i).2 cs hb;rw[g]
variable{cs:aG}
theorem lL{B:az}:b5 B i=some cs↔B[i]?=some (some cs):=by
 unfold b5;split
 ·rename_i h;simp[h]
 ·rename_i h;constructor
  ·simp
  ·intro h';exact absurd h' (h cs)
theorem qbv.get{B:az}(h:qbv B Bv)(m:b5 B i=some cs):∃ds,b5 Bv i=some ds/\AV.fits cs ds:=by obtain⟨ds,e,g⟩:=(h.2 i).2 cs (lL.1 m);exact⟨ds,lL.2 e,g⟩
variable{ds:aG}
theorem qbv.set{B:az}(h:qbv B Bv)(i:Nat)(r:AV.fits cs ds):qbv (B.set i (some cs)) (Bv.set i (some ds)):=by
 refine⟨by simpa using h.1,fun j=> ?_⟩
 by_cases m:i=j
 ·subst m
  constructor
  ·intro h'
   rw[j7]at h';cases hb:B[i]?<;>simp[hb]at h'
  ·intro c h'
   rw[j7]at h'⊢
   have g:i<B.length:=by
    rcases lP i B.length with q|q
    ·exact q
    ·rw[jm q]at h';simp at h'
   have e:i<Bv.length:=by rw[<-h.1];exact g
   simp[g]at h';subst h'
   simp[e,r]
 ·rw[jq m,jq m];exact h.2 j
theorem qbv.take{B:az}(h:qbv B Bv)(n:Nat):qbv (B.take n) (Bv.take n):=by
 refine⟨by simp[h.1],fun i=> ?_⟩;simp only[pX];split
 ·exact h.2 i
 ·simp
theorem qbv.more{B:az}(h:qbv B Bv)(n:Nat):qbv (B++List.replicate n none) (Bv++List.replicate n none):=by
 refine⟨by simp[h.1],fun i=> ?_⟩
 by_cases hi:i<B.length
 ·rw[d8 hi,d8 (by rw[<-h.1];exact hi)];exact h.2 i
 ·rw[dx (by omega),dx (by rw[<-h.1];omega),h.1]
  constructor
  ·exact id
  ·intro cs hc
   rw[Hy]at hc;split at hc<;>simp at hc
theorem Aq{B:az}(h:i<B.length):b5 (B.set i (some cs)) i=some cs:=by rw[lL];simp[h]
variable{j:Nat}
theorem Iq{B:az}{c:Option aG}(h:i≠j):b5 (B.set i c) j=b5 B j:=by unfold b5;rw[jq h]
theorem Ua{B:az}(h:i<B.length)(h':i<Bv.length):bD (B.set i (some cs)) (Bv.set i (some ds)) i=AV.owns cs ds:=by unfold bD;rw[Aq h,Aq h']
theorem qxQ{B:az}{c d:Option aG}(h:i≠j):bD (B.set i c) (Bv.set i d) j=bD B Bv j:=by unfold bD;rw[Iq h,Iq h]
theorem Oa{B:az}{c:Option aG}(h:i≠j):bD (B.set i c) Bv j=bD B Bv j:=by unfold bD;rw[Iq h]
theorem w8{B:az}:b5 (B.take n) i=if i<n then b5 B i else none:=by unfold b5;simp only[pX];split<;>simp_all
theorem X4{B:az}:b5 (B++List.replicate n none) i=b5 B i:=by
 unfold b5
 by_cases hi:i<B.length
 ·rw[d8 hi]
 ·rw[dx (by omega),Hy,jm (by omega:B.length<=i)]
  split<;>simp_all
section
variable {A0:Ids} {T:ae} {F:Id->Prop} {p:Id} {k:Nat} {sx:XS} {sv:St}
theorem Rel.er(h:Rel A0 T F p k sx sv):gh sx.r sv.r:=fun t x hx=>by obtain⟨v,e,g⟩:=h.regs t x hx;exact⟨v,e,AV.qde _ _ g⟩
theorem Rel.get(h:Rel A0 T F p k sx sv){a:AV}(hx:bm sx.r x=some a):∃v,x.get sv.r=some v/\a.fit v:=by
 cases x with
 |t n=>exact h.regs n a hx
 |c v=>
  cases v with
  |d v=>simp[bm,VX.get]at hx⊢;subst hx;simp only[AV.fit];exact⟨_,rfl,DV.qvn v⟩
  |_=>simp[bm,VX.get]at hx⊢;subst hx;exact AV.qbf _
def cA(rx rv:aI)(x:VX):eU:=
 match bm rx x,x.get rv with
 |some a,some v=>a.own v
 |_,_=>[]
theorem ss(rx rv:aI)(n:Nat):cA rx rv (.t n)=bp rx rv n:=rfl
theorem IJ(rx rv:aI)(v:AV):cA rx rv (.c v)=[]:=by
 cases v with
 |d v=>simp[cA,bm,VX.get,AV.own,DV.qLr]
 |_=>simp only[cA,bm,VX.get,AV.qbN]
theorem eN{a:AV}(e:bm rx x=some a)(g:x.get rv=some v):cA rx rv x=a.own v:=by simp[cA,e,g]
theorem Rel.qeL(h:Rel A0 T F p k sx sv)(e:a∈cA sx.r sv.r x):∃n,x= .t n/\T.contains n=true/\a∈bp sx.r sv.r n:=by
 cases x with
 |c v=>rw[IJ]at e;simp at e
 |t n=>
  rw[ss]at e;refine⟨n,rfl,?_,e⟩;cases hn:T.contains n with
  |true=>rfl
  |false=>rw[h.nl n hn]at e;simp at e
theorem VP(r:aI)(x:VX)(t:Nat):lk (et T r x) t=if x= .t t/\T.contains t=true then(lk r t).map AV.clr else lk r t:=by
 cases x with
 |c v=>simp[et]
 |t n=>
  simp only[et]
  by_cases q:T.contains n=true
  ·simp only[q,if_true]
   cases hl:lk r n with
   |none=>
    by_cases e:n=t
    ·subst e;simp[hl]
    ·simp[e]
   |some v=>
    simp only[lk_cons']
    by_cases e:t=n
    ·subst e;have g:t∈T:=by simpa using q
     simp[g,hl]
    ·have:¬n=t:=fun h=>e h.symm
     simp[e,this]
  ·have g:T.contains n=false:=by simpa using q
   simp only[g,bg,if_false]
   by_cases e:n=t
   ·subst e;have m:¬n∈T:=by simpa using q
    simp[m]
   ·simp[e]
where lk_cons' {t:Nat} {v:AV} {r:aI} {n:Nat}:lk ((t,v)::r) n=if n=t then some v else lk r n:=rfl
theorem yU:∀(xs:cg) (r:aI) (t:Nat),lk (du T r xs) t=if VX.t t∈xs/\T.contains t=true then(lk r t).map AV.clr else lk r t
 | [],r,t=>by simp[du]
 |x::xs,r,t=>by
  simp only[du];rw[yU xs,VP]
  by_cases q:T.contains t=true
  ·have e:t∈T:=by simpa using q
   by_cases m:VX.t t∈xs
   ·by_cases g:x= .t t
    ·subst g
     simp only[m,q,xY,if_true,cE,true_or,Hq]
     congr 1;funext v;exact AV.qiZ v
    ·have u:VX.t t≠x:=fun h=>g h.symm
     simp[m,g,e,u]
   ·by_cases g:x= .t t
    ·subst g;simp[m,e]
    ·have u:VX.t t≠x:=fun h=>g h.symm
     simp[m,g,u]
  ·have e:¬t∈T:=by simpa using q
   simp[e]
theorem mc(xs:cg)(r rv:aI)(t:Nat):bp (du T r xs) rv t=if VX.t t∈xs/\T.contains t=true then []else bp r rv t:=by
 unfold bp;rw[yU]
 by_cases hc:VX.t t∈xs/\T.contains t=true
 ·rw[ay hc,ay hc]
  cases lk r t with
  |none=>rfl
  |some v=>cases lk rv t with
   |none=>rfl
   |some u=>simp[AV.qbN]
 ·rw[aC hc,aC hc]
theorem Rel.drops(h:Rel A0 T F p k sx sv)(xs:cg):Rel A0 T F p k ⟨du T sx.r xs,sx.B⟩ sv:=by
 refine⟨fun t x hx=> ?_,h.boxes,h.held.shrink (fun ℓ=> ?_) (fun a g _=>g) (fun _ w=>w),fun t e=> ?_,fun t e=> ?_,h.am⟩
 ·simp only at hx
  rw[yU]at hx;split at hx
  ·obtain⟨y,m,rfl⟩:=aN.1 hx
   obtain⟨v,u,q⟩:=h.regs t y m;exact⟨v,u,AV.qde _ _ q⟩
  ·exact h.regs t x hx
 ·cases ℓ with
  |reg t=>simp only[aU,mc];split<;>simp
  |box i=>simp[aU]
 ·simp only[mc];split
  ·rfl
  ·exact h.nl t e
 ·simp only at e
  rw[yU]at e;split at e
  ·exact h.no t (by simpa using e)
  ·exact h.no t e
theorem Rel.next(h:Rel A0 T F p k sx sv)(m:k<=k'):Rel A0 T F p k' sx sv:=⟨h.regs,h.boxes,h.held.shrink (fun _=>ct _) (fun a e _=>e) (fun _ g=>g.le m),h.nl,h.no,fun a e=>⟨fun g=>(h.am a e).1 (g.le m),(h.am a e).2⟩⟩
theorem Rel.put(h:Rel A0 T F p k sx sv)(dst:bi){a:AV}(m:a.fit v)(I:k<=k')
 (w:cR T dst=true->(a.own v).Nodup/\∀i,i∈a.own v->A' i=true/\¬F i/\¬Fut p k' i/\∀ℓ,ℓ≠Loc.reg (dst.getD 0)->i∉aU sx.r sx.B sv.r sv.B ℓ)
 (H:∀i,sv.A i=true->(F i\/∃ℓ,i∈aU sx.r sx.B sv.r sv.B ℓ)->A' i=true) (K:∀a,A' a=true->sv.A a=true\/(Fut p 0 a/\¬Fut p k' a)) (c':Nat):
 Rel A0 T F p k' (a9 T sx dst a) {(St.put {sv with A:=A'} dst v)with c:=c'}:=by
 have C:∀a,A' a=true->¬Fut p k' a/\(A0 a=true\/Fut p 0 a):=fun a M=>by
  rcases K a M with q|⟨q,J⟩
  ·exact⟨fun m=>(h.am a q).1 (m.le I),(h.am a q).2⟩
  ·exact⟨J,.inr q⟩
 cases dst with
 |none=>exact⟨h.regs,h.boxes,h.held.shrink (fun _=>ct _) (fun i hi hx=>H i hi hx) (fun _ m=>m.le I),h.nl,h.no,C⟩
 |some d=>
  have u:∀t,t≠d->bp (a9 T sx (some d) a).r ((d,v)::sv.r) t=bp sx.r sv.r t:=by intro t e;simp only[bp,a9,lk];rw[aC e,aC e]
  have D:bp (a9 T sx (some d) a).r ((d,v)::sv.r) d=if T.contains d=true then a.own v else []:=by
   simp only[bp,a9,lk,if_true];split
   ·rfl
   ·exact AV.qbN _ _
  refine⟨fun t x hx=> ?_,h.boxes,?_,fun t e=> ?_,fun t e=> ?_,C⟩
  ·simp only[a9,lk]at hx
   simp only[St.put,lk];split at hx
   ·rename_i g
    rw[ay g];simp at hx;refine⟨v,rfl,?_⟩;split at hx
    ·subst hx;exact m
    ·subst hx;exact AV.qde _ _ m
   ·rename_i g
    rw[aC g];exact h.regs t x hx
  ·simp only[St.put]
   by_cases G:T.contains d=true
   ·obtain⟨q,J⟩:=w G
    refine h.held.set (Loc.reg d) (fun ℓ hℓ=> ?_) (by simp only[aU,D,G,if_true];exact q) (fun i hi=> ?_) (fun ℓ hℓ i hi=> ?_) (fun i hi=>H i (h.held.fr i hi).1 (.inl hi)) (fun _ m=>m.le I)
    ·cases ℓ with
     |reg t=>simp only[aU];rw[u t (fun g=>hℓ (by rw[g]))];exact ct _
     |box i=>exact ct _
    ·simp only[aU,D,G,if_true]at hi
     obtain⟨Q,O,P,N⟩:=J i hi;refine⟨Q,O,P,fun ℓ hℓ=> ?_⟩;have:=N ℓ (by simpa using hℓ);cases ℓ with
     |reg t=>simp only[aU]at this⊢;rw[u t (fun g=>hℓ (by rw[g]))];exact this
     |box i=>exact this
    ·have:i∈aU sx.r sx.B sv.r sv.B ℓ:=by
      cases ℓ with
      |reg t=>simp only[aU]at hi⊢;rw[u t (fun g=>hℓ (by rw[g]))]at hi;exact hi
      |box i=>exact hi
     exact H i (h.held.opn ℓ i this).1 (.inr ⟨ℓ,this⟩)
   ·refine h.held.shrink (fun ℓ=> ?_) (fun i hi hx=>H i hi ?_) (fun _ m=>m.le I)
    ·cases ℓ with
     |reg t=>
      simp only[aU]
      by_cases e:t=d
      ·subst e;rw[D,aC G];simp
      ·rw[u t e];exact ct _
     |box i=>exact ct _
    ·rcases hx with hx|⟨ℓ,hx⟩
     ·exact .inl hx
     ·refine .inr ⟨ℓ,?_⟩
      cases ℓ with
      |reg t=>
       simp only[aU]at hx⊢
       by_cases e:t=d
       ·subst e;rw[D,aC G]at hx;simp at hx
       ·rw[u t e]at hx;exact hx
      |box i=>exact hx
  ·simp only[St.put]
   by_cases g:t=d
   ·subst g;rw[D,aC (by rw[e];simp)]
   ·rw[u t g];exact h.nl t e
  ·simp only[a9,lk]at e
   simp only[St.put,lk];split at e
   ·simp at e
   ·rename_i g;rw[aC g];exact h.no t e
theorem Rel.put0(h:Rel A0 T F p k sx sv)(dst:bi){a:AV}(m:a.fit v)(g:a.own v=[])(e:k<=k')(c':Nat):Rel A0 T F p k' (a9 T sx dst a) {(sv.put dst v)with c:=c'}:=h.put dst m e (fun _=>by rw[g];simp) (fun i hi _=>hi) (fun _ hi=> .inl hi) c'
end
theorem qV{T:ae}{xs:cg}(h:c6 T (x::xs)=true):(∀n,x= .t n->T.contains n=true->VX.t n∉xs)/\c6 T xs=true:=by
 simp only[c6,cd,cm,Bool.not_eq_true',List.any_eq_false]at h;refine⟨?_,h.2⟩
 rintro n rfl e g
 have m:=h.1 n (by simp only[VX.linT,e,if_true];simp);have:=m (.t n) g;simp only[VX.linT,e,if_true]at this;simp at this
variable{y:VX}
section
variable {A0:Ids} {T:ae} {F:Id->Prop} {p:Id} {k:Nat} {sx:XS} {sv:St}
theorem Rel.qf9(h:Rel A0 T F p k sx sv)(w:∀n,x= .t n->T.contains n=true->y≠.t n)(q:a∈cA sx.r sv.r x):a∉cA sx.r sv.r y:=by intro C;obtain⟨n,rfl,u,g⟩:=h.qeL q;obtain⟨m,rfl,D,e⟩:=h.qeL C;have:=h.held.apart (.reg n) (.reg m) a g e;simp at this;exact w n rfl u (by rw[this])
theorem Rel.qbn(h:Rel A0 T F p k sx sv)(x:VX):(cA sx.r sv.r x).Nodup:=by
 cases x with
 |c v=>rw[IJ];simp
 |t n=>rw[ss];exact h.held.nodup (.reg n)
theorem Rel.qec(h:Rel A0 T F p k sx sv){xs:cg}(hx:x∈xs)(q:a∈cA sx.r sv.r x)(ℓ:Loc):a∉aU (du T sx.r xs) sx.B sv.r sv.B ℓ:=by
 obtain⟨n,rfl,u,m⟩:=h.qeL q;intro e;have g:a∈aU sx.r sx.B sv.r sv.B ℓ:=by
  cases ℓ with
  |reg t=>simp only[aU,mc]at e⊢;split at e<;>first|(simp at e;done)|exact e
  |box i=>exact e
 have:=h.held.apart (.reg n) ℓ a m g;subst this;simp only[aU,mc]at e;rw[ay ⟨hx,u⟩]at e;simp at e
theorem Rel.qdI(h:Rel A0 T F p k sx sv)(g:a∈cA sx.r sv.r x):sv.A a=true/\¬F a/\¬Fut p k a:=by obtain⟨n,rfl,m,e⟩:=h.qeL g;exact h.held.opn (.reg n) a e
theorem Mu{dst:bi}(e:cR T dst=true)(s:XS)(xs:cg):dH T dst s xs=⟨du T s.r xs,s.B⟩:=by simp[dH,e]
theorem OT{dst:bi}(e:cR T dst=false)(s:XS)(xs:cg):dH T dst s xs=s:=by simp[dH,e]
theorem Rel.give(h:Rel A0 T F p k sx sv)(dst:bi)(xs:cg){a:AV}(g:a.fit v)(q:(a.own v).Nodup)(u:∀i,i∈a.own v->∃x,x∈xs/\i∈cA sx.r sv.r x)(m:k<=k')(c':Nat):
 Rel A0 T F p k' (a9 T (dH T dst sx xs) dst a) {(sv.put dst v)with c:=c'}:=by
 cases hl:cR T dst with
 |false=>rw[OT hl];exact h.put dst g m (fun h'=>by rw[hl]at h';simp at h') (fun i hi _=>hi) (fun _ hi=> .inl hi) c'
 |true=>rw[Mu hl];refine(h.drops xs).put dst g m (fun _=>⟨q,fun i hi=> ?_⟩) (fun i hi _=>hi) (fun _ hi=> .inl hi) c';obtain⟨x,hx,e⟩:=u i hi;obtain⟨D,w,C⟩:=h.qdI e;exact⟨D,w,fun g=>C (g.le m),fun ℓ _=>h.qec hx e ℓ⟩
theorem Zj{a:aw}(e:DV.fits a c)(g:DV.fits b d)(off:Nat):DV.fits (splice a off b) (splice c off d):=by unfold splice;rw[<-DV.qao g];exact DV.qa6 (DV.qa6 (DV.qbp e _) g) (DV.qbw e _)
theorem Ns{a b c d:aG}(e:AV.fits a c)(g:AV.fits b d)(off:Nat):AV.fits (splice a off b) (splice c off d):=by unfold splice;rw[<-AV.qao g];exact AV.qa6 (AV.qa6 (AV.qbp e _) g) (AV.qbw e _)
theorem qvP{a:aw}(h:DV.fits a c)(m:DV.fits b d)(off:Nat):DV.owns (splice a off b) (splice c off d)=DV.owns (a.take off) (c.take off)++DV.owns b d++DV.owns (a.drop (off+b.length)) (c.drop (off+b.length)):=by unfold splice;have g:=DV.qao h;have e:=DV.qao m;rw[<-e,DV.qa0 (by simp[g,e]),DV.qa0 (by simp[g])]
theorem LS{a b c d:aG}(h:AV.fits a c)(m:AV.fits b d)(off:Nat):AV.owns (splice a off b) (splice c off d)=AV.owns (a.take off) (c.take off)++AV.owns b d++AV.owns (a.drop (off+b.length)) (c.drop (off+b.length)):=by unfold splice;have g:=AV.qao h;have e:=AV.qao m;rw[<-e,AV.qa0 (by simp[g,e]),AV.qa0 (by simp[g])]
theorem NG{a:aw}(h:a.length=c.length)(off m:Nat):(DV.owns (a.take off) (c.take off)++DV.owns (a.drop (off+m)) (c.drop (off+m))).Sublist (DV.owns a c):=by rw[DV.qb1 h off];refine jg (ct _) ?_;rw[DV.qb1 (a:=a.drop off) (c:=c.drop off) (by simp[h]) m,sj,sj];exact j6 _ _
theorem Nt{a c:aG}(h:a.length=c.length)(off m:Nat):(AV.owns (a.take off) (c.take off)++AV.owns (a.drop (off+m)) (c.drop (off+m))).Sublist (AV.owns a c):=by rw[AV.qb1 h off];refine jg (ct _) ?_;rw[AV.qb1 (a:=a.drop off) (c:=c.drop off) (by simp[h]) m,sj,sj];exact j6 _ _
theorem Hz{α:Type}{r m C w:List α}(D:(r++C).Sublist w)(J:w.Nodup)(O:m.Nodup)(I:∀a,a∈m->a∉w):(r++m++C).Nodup:=by
 have H:=J.sublist D;rw[cJ]at H;obtain⟨K,M,N⟩:=H;have G:∀a,a∈r->a∈w:=fun a e=>D.subset (by simp[e])
 have u:∀a,a∈C->a∈w:=fun a e=>D.subset (by simp[e])
 rw[cJ];refine⟨?_,M,?_⟩
 ·rw[cJ]
  exact⟨K,O,fun a e b q g=>I b q (by rw[<-g];exact G a e)⟩
 ·intro a e b q g
  rcases bw.1 e with h|h
  ·exact N a h b q g
  ·exact I a h (by rw[g];exact u b q)
theorem Mn(h:Rel A0 T F p k sx sv):∀(ps:nq) (cs ds g:aw),c6 T (ps.map fun q=>q.2.2)=true->iR (bm sx.r) cs ps=some g->DV.fits cs ds->(DV.owns cs ds).Nodup->
 (∀a,a∈DV.owns cs ds->∀x,x∈ps.map (fun q=>q.2.2)->a∉cA sx.r sv.r x)->
 ∃m,iR (VX.get sv.r) ds ps=some m/\DV.fits g m/\(DV.owns g m).Nodup/\∀a,a∈DV.owns g m->a∈DV.owns cs ds\/∃x,x∈ps.map (fun q=>q.2.2)/\a∈cA sx.r sv.r x
 | [],cs,ds,g,_,w,N,P,_=>by simp[iR]at w;subst w;exact⟨ds,rfl,N,P,fun a e=> .inl e⟩
 |(off,size,x)::ps,cs,ds,g,hd,w,N,P,H=>by
  simp only[bF]at hd H;obtain⟨Y,Z⟩:=qV hd;simp only[iR]at w;split at w
  ·rename_i v hv
   split at w
   ·rename_i hc
    obtain⟨c1,c2,c3⟩:=hc;obtain⟨u,hu,O⟩:=h.get hv;simp only[AV.fit]at O;obtain⟨y,rfl,G⟩:=O;have K:=DV.qbe G;have R:cA sx.r sv.r x=v.own y:=by rw[eN hv hu];rfl
    have I:(DV.owns v.cells y.cells)=cA sx.r sv.r x:=by rw[DV.qdJ G,R]
    have h4:=Zj N K off;have C:=qvP N K off;have M:=NG (DV.qao N) off v.cells.length;have h3:(DV.owns (splice cs off v.cells) (splice ds off y.cells)).Nodup:=by rw[C];exact Hz M P (by rw[I];exact h.qbn x) (fun a e hm=>H a hm x (by simp) (by rw[<-I];exact e))
    have D:∀a,a∈DV.owns (splice cs off v.cells) (splice ds off y.cells)->a∈DV.owns cs ds\/a∈cA sx.r sv.r x:=by
     intro a e;rw[C]at e;simp only[bw]at e;rcases e with(e|e)|e
     ·exact .inl (M.subset (by simp[e]))
     ·exact .inr (by rw[<-I];exact e)
     ·exact .inl (M.subset (by simp[e]))
    obtain⟨m,e1,e2,e3,e4⟩:=Mn h ps _ _ g Z w h4 h3 (fun a e z Q=>by
     rcases D a e with J|J
     ·exact H a J z (by simp[Q])
     ·refine h.qf9 (fun n hx P he=> ?_) J
      subst he;exact Y n hx P Q)
    refine⟨m,?_,e2,e3,fun a e=> ?_⟩
    ·simp only[iR,hu]
     rw[ay ⟨by rw[DV.qbG G];exact c1,by rw[<-DV.qao N];exact c2,by rw[DV.qdd K];exact c3⟩];exact e1
    ·rcases e4 a e with J|⟨z,Q,J⟩
     ·rcases D a J with S|S
      ·exact .inl S
      ·exact .inr ⟨x,by simp,S⟩
     ·exact .inr ⟨z,by simp only[bF,cE];exact .inr Q,J⟩
   ·simp at w
  ·simp at w
theorem C5{a:aw}(h:DV.fits a c){x y:DV}(hx:x.fit y):DV.fits (a.set i x) (c.set i y):=by
 rw[DV.qbq]at h⊢
 refine⟨by simp[h.1],fun j u v e g=> ?_⟩
 by_cases m:i=j
 ·subst m
  rw[j7]at e g;cases ha:a[i]?<;>cases hc:c[i]?<;>simp[ha,hc]at e g
  subst e;subst g;exact hx
 ·rw[jq m]at e g;exact h.2 j u v e g
theorem qJ{a:aw}(h:DV.fits a c)(hi:i<a.length)(x y:DV):DV.owns (a.set i x) (c.set i y)=DV.owns (a.take i) (c.take i)++x.own y++DV.owns (a.drop (i+1)) (c.drop (i+1)):=by
 have e:=DV.qao h;have g:∀(l:aw) (z:DV),i<l.length->l.set i z=l.take i++z::l.drop (i+1):=fun l z e=>by rw[IF,ay e]
 rw[g a x hi,g c y (by omega),DV.qa0 (by simp[e])];simp[DV.owns,bX]
theorem PC(h:Rel A0 T F p k sx sv)(sz:Nat):∀(ps:mM) (cs ds w:aw),c6 T (ps.map fun q=>q.2)=true->f6 (bm sx.r) sz cs ps=some w->DV.fits cs ds->(∀e:DV,e∈ds->e.cells.length=sz)->(DV.owns cs ds).Nodup->
 (∀a,a∈DV.owns cs ds->∀x,x∈ps.map (fun q=>q.2)->a∉cA sx.r sv.r x)->
 ∃m,f6 (VX.get sv.r) sz ds ps=some m/\DV.fits w m/\(∀e:DV,e∈m->e.cells.length=sz)/\(DV.owns w m).Nodup/\∀a,a∈DV.owns w m->a∈DV.owns cs ds\/∃x,x∈ps.map (fun q=>q.2)/\a∈cA sx.r sv.r x
 | [],cs,ds,w,_,G,O,H,Q,_=>by simp[f6]at G;subst G;exact⟨ds,rfl,O,H,Q,fun a g=> .inl g⟩
 |(i,x)::ps,cs,ds,w,hd,G,O,H,Q,M=>by
  simp only[bF]at hd M;obtain⟨Y,h3⟩:=qV hd;simp only[f6]at G;split at G
  ·rename_i v hv
   split at G
   ·rename_i hc
    obtain⟨c1,c2,c3⟩:=hc;obtain⟨u,hu,P⟩:=h.get hv;simp only[AV.fit]at P;obtain⟨y,rfl,D⟩:=P;have h4:=DV.qbe D;have K:cA sx.r sv.r x=v.own y:=by rw[eN hv hu];rfl
    have x1:=C5 O (i:=i) D;have I:=qJ O c2 v y;have N:=NG (DV.qao O) i 1;have Z:∀e:DV,e∈ds.set i y->e.cells.length=sz:=by
     intro e R;rcases I0 R with C|C
     ·exact H e C
     ·subst C;rw[DV.qbG D];exact c1
    have h5:(DV.owns (cs.set i v) (ds.set i y)).Nodup:=by rw[I];exact Hz N Q (by rw[<-K];exact h.qbn x) (fun a g hm=>M a hm x (by simp) (by rw[K];exact g))
    have J:∀a,a∈DV.owns (cs.set i v) (ds.set i y)->a∈DV.owns cs ds\/a∈cA sx.r sv.r x:=by
     intro a g;rw[I]at g;simp only[bw]at g;rcases g with(g|g)|g
     ·exact .inl (N.subset (by simp[g]))
     ·exact .inr (by rw[K];exact g)
     ·exact .inl (N.subset (by simp[g]))
    obtain⟨m,e1,e2,e0,e3,e4⟩:=PC h sz ps _ _ w h3 G x1 Z h5 (fun a g z H=>by
     rcases J a g with C|C
     ·exact M a C z (by simp[H])
     ·refine h.qf9 (fun n hx Q R=> ?_) C
      subst R;exact Y n hx Q H)
    refine⟨m,?_,e2,e0,e3,fun a g=> ?_⟩
    ·simp only[f6,hu]
     rw[ay ⟨by rw[DV.qbG D];exact c1,by rw[<-DV.qao O];exact c2,by rw[DV.qdd h4];exact c3⟩];exact e1
    ·rcases e4 a g with C|⟨z,H,C⟩
     ·rcases J a C with S|S
      ·exact .inl S
      ·exact .inr ⟨x,by simp,S⟩
     ·exact .inr ⟨z,by simp only[bF,cE];exact .inr H,C⟩
   ·simp at G
  ·simp at G
theorem Rel.box(h:Rel A0 T F p k sx sv)(xs:cg)(i:Nat)(M:AV.fits cs ds)(hi:i<sx.B.length)(w:(AV.owns cs ds).Nodup)
 (D:∀a,a∈AV.owns cs ds->a∈bD sx.B sv.B i\/∃x,x∈xs/\a∈cA sx.r sv.r x):
 Rel A0 T F p k ⟨du T sx.r xs,sx.B.set i (some cs)⟩ {sv with B:=sv.B.set i (some ds)}:=by
 have J:i<sv.B.length:=by rw[<-h.boxes.1];exact hi
 have G:∀j,j≠i->bD (sx.B.set i (some cs)) (sv.B.set i (some ds)) j=bD sx.B sv.B j:=fun j N=>qxQ (fun m=>N m.symm)
 have g:bD (sx.B.set i (some cs)) (sv.B.set i (some ds)) i=AV.owns cs ds:=Ua hi J;refine⟨(h.drops xs).regs,h.boxes.set i M,?_,(h.drops xs).nl,(h.drops xs).no,h.am⟩;refine h.held.set (Loc.box i) (fun ℓ hℓ=> ?_) (by simp only[aU,g];exact w) (fun a e=> ?_) (fun ℓ hℓ a e=> ?_) (fun a e=>(h.held.fr a e).1) (fun _ M=>M)
 ·cases ℓ with
  |reg t=>simp only[aU,mc];split<;>simp
  |box j=>simp only[aU];rw[G j (fun m=>hℓ (by rw[m]))];exact ct _
 ·simp only[aU,g]at e
  have gone:∀ℓ,ℓ≠Loc.box i->a∉aU (du T sx.r xs) sx.B sv.r sv.B ℓ->a∉aU (du T sx.r xs) (sx.B.set i (some cs)) sv.r (sv.B.set i (some ds)) ℓ:=by
   intro ℓ hℓ K;cases ℓ with
   |reg t=>exact K
   |box j=>simp only[aU]at K⊢;rw[G j (fun m=>hℓ (by rw[m]))];exact K
  rcases D a e with q|⟨x,hx,q⟩
  ·obtain⟨I,C,H⟩:=h.held.opn (.box i) a q
   refine⟨I,C,H,fun ℓ hℓ=>gone ℓ hℓ fun u=>hℓ ?_⟩;refine(h.held.apart (.box i) ℓ a q ?_).symm;cases ℓ with
   |reg t=>simp only[aU,mc]at u⊢;split at u<;>first|(simp at u;done)|exact u
   |box j=>exact u
  ·obtain⟨I,C,H⟩:=h.qdI q
   exact⟨I,C,H,fun ℓ hℓ=>gone ℓ hℓ (h.qec hx q ℓ)⟩
 ·have:a∈aU sx.r sx.B sv.r sv.B ℓ:=by
   cases ℓ with
   |reg t=>simp only[aU,mc]at e⊢;split at e<;>first|(simp at e;done)|exact e
   |box j=>simp only[aU]at e⊢;rw[G j (fun m=>hℓ (by rw[m]))]at e;exact e
  exact(h.held.opn ℓ a this).1
end
def jj(X:cf)(V:cj)(lin:Nat->ae):Prop:=
 ∀f xs B v' B',X f xs B=some (v',B')->∀p vs Bv A F,AV.fits xs vs->qbv B Bv->Held F (Fut p 0) A (aU (bn 0 xs) B (bn 0 vs) Bv)->
  (∀j,(lin f).contains j=false->bp (bn 0 xs) (bn 0 vs) j=[])->(∀a,A a=true->¬Fut p 0 a)->
  ∃v e A',V p f vs Bv A=some ⟨v,A',e⟩/\v'.fit v/\qbv B' e/\Held F (fun _=>False) A' (aU [(0,v')] B' [(0,v)] e)/\
   ∀a,A' a=true->A a=true\/Fut p 0 a
theorem nV:∀(args:aG) (i t:Nat),lk (bn i args) t=if i<=t then args[t-i]? else none
 | [],i,t=>by simp[bn,lk]
 |x::xs,i,t=>by
  simp only[bn,lk]
  by_cases g:t=i
  ·subst g;simp
  ·rw[aC g,nV xs]
   by_cases e:i+1<=t
   ·rw[ay e,ay (by omega),show t-i=(t-(i+1))+1 by omega];simp
   ·rw[aC e,aC (by omega)]
theorem r8(xs vs:aG)(t:Nat):bp (bn 0 xs) (bn 0 vs) t=match xs[t]?,vs[t]? with|some x,some v=>x.own v|_,_=>[]:=by
 unfold bp;rw[nV,nV];simp only[c8,if_true,qa]
 all_goals (cases xs[t]?<;>cases vs[t]?<;>rfl)
theorem p9{xs:aG}{ds:aw}(h:bd xs=some ds){vs:aG}(e:AV.fits xs vs):∃es,bd vs=some es/\DV.fits ds es/\AV.owns xs vs=DV.owns ds es:=by
 induction xs generalizing ds vs with
 |nil=>simp[bd]at h;subst h;simp only[AV.fits]at e;subst e;exact⟨[],rfl,by simp[DV.fits],by simp[AV.owns,DV.owns]⟩
 |cons x xs D=>
  cases x with
  |d d=>simp only[bd]at h;obtain⟨H,q,rfl⟩:=aN.1 h;simp only[AV.fits]at e;obtain⟨v,r,rfl,g,w⟩:=e;simp only[AV.fit]at g;obtain⟨y,rfl,C⟩:=g;obtain⟨es,G,m,u⟩:=D q w;exact⟨y::es,by simp[bd,G],by simp only[DV.fits];exact⟨_,_,rfl,C,m⟩,by simp[AV.owns,DV.owns,AV.own,u]⟩
  |_=>simp[bd]at h
theorem M3{A0:Ids}{T:ae}{sx:XS}{sv:St}(h:Rel A0 T F p k sx sv):∀{xs:cg} {as:aG},j4 sx.r xs=some as->∃vs,f0 sv.r xs=some vs/\AV.fits as vs/\as.length=xs.length/\
 ∀(j:Nat) (a v:AV) (x:VX),as[j]?=some a->vs[j]?=some v->xs[j]?=some x->a.own v=cA sx.r sv.r x
 | [],as,hx=>by simp[j4]at hx;subst hx;exact⟨[],rfl,by simp[AV.fits],rfl,by simp⟩
 |x::xs,as,hx=>by
  simp only[j4]at hx;obtain⟨a,m,G⟩:=aL.1 hx;obtain⟨J,H,rfl⟩:=aN.1 G;obtain⟨v,q,I⟩:=h.get m;obtain⟨vs,w,D,K,C⟩:=M3 h H;refine⟨v::vs,by simp[f0,q,w],by simp only[AV.fits];exact⟨_,_,rfl,I,D⟩,by simp[K],fun j b u y g e hy=> ?_⟩;cases j with
  |zero=>simp at g e hy;subst g;subst e;subst hy;exact(eN m q).symm
  |succ j=>simp at g e hy;exact C j b u y g e hy
theorem Io(LP:ae):∀(vs:aG) (j:Nat),(dq LP j vs).length=vs.length
 | [],j=>rfl
 |v::r,j=>by simp[dq,Io LP r]
theorem Ap(LP:ae):∀(vs:aG) (j i:Nat),(dq LP j vs)[i]?=(vs[i]?).map fun v=>if LP.contains (j+i)then v else v.clr
 | [],j,i=>by simp[dq]
 |v::r,j,i=>by
  cases i with
  |zero=>simp[dq]
  |succ i=>simp only[dq,Cj];rw[Ap LP r];congr 1;funext v;rw[show j+1+i=j+(i+1)by omega]
variable{LP:ae}
theorem Kj{as vs:aG}(h:AV.fits as vs)(j:Nat):AV.fits (dq LP j as) vs:=by
 rw[AV.qbq]at h⊢
 refine⟨by rw[Io];exact h.1,fun i x v hx e=> ?_⟩;rw[Ap]at hx;obtain⟨y,g,rfl⟩:=aN.1 hx;have:=h.2 i y v g e;split
 ·exact this
 ·exact AV.qde _ _ this
theorem GT(LP:ae):∀(xs:cg) (j i:Nat) (x:VX),xs[i]?=some x->LP.contains (j+i)=true->x∈dp LP j xs
 | [],j,i,x,h,_=>by simp at h
 |y::r,j,i,x,h,hc=>by
  cases i with
  |zero=>simp at h hc;subst h;simp[dp,hc]
  |succ i=>
   simp at h;have:=GT LP r (j+1) i x h (by rw[show j+1+i=j+(i+1)by omega];exact hc);simp only[dp];split
   ·exact jn _ this
   ·exact this
theorem Ev{T:ae}:∀(xs:cg) (j i e:Nat) (x x':VX),c6 T (dp LP j xs)=true->xs[i]?=some x->xs[e]?=some x'->LP.contains (j+i)=true->LP.contains (j+e)=true->i<e->∀n,x= .t n->T.contains n=true->x'≠.t n
 | [],j,i,e,x,x',_,h,_,_,_,_=>by simp at h
 |y::r,j,i,e,x,x',g,h,h',hc,q,H=>by
  intro n hx D C;obtain⟨e,rfl⟩:∃m,e=m+1:=⟨e-1,by omega⟩;simp at h';cases i with
  |zero=>
   simp at h hc;subst h
   have w:LP.contains j=true:=by simpa using hc
   simp only[dp,w,if_true]at g;obtain⟨G,_⟩:=qV g;refine G n hx D ?_;rw[<-C];exact GT LP r (j+1) e x' h' (by rw[show j+1+e=j+(e+1)by omega];exact q)
  |succ i=>
   simp at h;have u:c6 T (dp LP (j+1) r)=true:=by
    simp only[dp]at g;split at g
    ·exact(qV g).2
    ·exact g
   exact Ev r (j+1) i e x x' u h h' (by rw[show j+1+i=j+(i+1)by omega];exact hc) (by rw[show j+1+e=j+(e+1)by omega];exact q) (by omega) n hx D C
variable{off:Nat}{agg:Bool}{s:St}
section
variable {A0:Ids} {T:ae} {F:Id->Prop} {p:Id} {k:Nat} {sx sx':XS} {sv:St} {X:cf} {V:cj} {lin:Nat->ae} {draw:Bool} {L0 i:Nat} {o:VOper}
theorem Lm{x:AV}(h:x.fit v):v.plainT=x.plainT/\(x.plainT=true->x.own v=[]):=by
 cases x<;>simp only[AV.fit]at h
 case d x=>
  obtain⟨y,rfl,e⟩:=h;cases x<;>simp only[DV.fit]at e
  case sl g xs=>
   obtain⟨g',ys,rfl,m,_⟩:=e;cases xs with
   |nil=>simp only[DV.fits]at m;subst m;exact⟨rfl,fun _=>by simp[AV.own,DV.own,DV.owns]⟩
   |cons a r=>simp only[DV.fits]at m;obtain⟨_,_,rfl,_⟩:=m;exact⟨rfl,fun h=>by simp[AV.plainT]at h⟩
  case agg cs=>obtain⟨_,rfl,_⟩:=e;exact⟨rfl,fun h=>by simp[AV.plainT]at h⟩
  case tup cs=>obtain⟨_,rfl,_⟩:=e;exact⟨rfl,fun h=>by simp[AV.plainT]at h⟩
  all_goals subst e;exact⟨rfl,fun _=>by simp[AV.own,DV.own]⟩
 case ep=>obtain⟨_,rfl,_⟩:=h;exact⟨rfl,fun h=>by simp[AV.plainT]at h⟩
 case fn=>obtain⟨_,rfl,_⟩:=h;exact⟨rfl,fun h=>by simp[AV.plainT]at h⟩
 case bsl=>obtain⟨_,rfl⟩:=h;exact⟨rfl,fun h=>by simp[AV.plainT]at h⟩
 case ag=>obtain⟨_,rfl,_⟩:=h;exact⟨rfl,fun h=>by simp[AV.plainT]at h⟩
 all_goals subst h;exact⟨rfl,fun _=>by simp[AV.own]⟩
theorem NO:∀{xs vs:aG},AV.fits xs vs->vs.all AV.plainT=xs.all AV.plainT
 | [],vs,h=>by simp only[AV.fits]at h;subst h;rfl
 |x::xs,vs,h=>by simp only[AV.fits]at h;obtain⟨v,vs,rfl,e,g⟩:=h;simp only[fX,(Lm e).1,NO g]
theorem PH:∀{xs vs:aG},AV.fits xs vs->xs.all AV.plainT=true->AV.owns xs vs=[]
 | [],vs,h,_=>by simp[AV.owns]
 |x::xs,vs,h,e=>by simp only[AV.fits]at h;obtain⟨v,vs,rfl,g,m⟩:=h;simp only[fX,cd]at e;simp only[AV.owns,(Lm g).2 e.1,PH m e.2];rfl
theorem Ow:∀{xs vs:aG},bd xs=none->AV.fits xs vs->bd vs=none
 | [],vs,h,_=>by simp[bd]at h
 |x::xs,vs,h,g=>by
  simp only[AV.fits]at g;obtain⟨v,vs,rfl,e,m⟩:=g;cases x<;>simp only[AV.fit]at e
  case d x=>
   obtain⟨y,rfl,_⟩:=e;simp only[bd,Option.map_eq_none_iff]at h⊢
   exact Ow h m
  case ep=>obtain⟨_,rfl,_⟩:=e;rfl
  case fn=>obtain⟨_,rfl,_⟩:=e;rfl
  case bsl=>obtain⟨_,rfl⟩:=e;rfl
  case ag=>obtain⟨_,rfl,_⟩:=e;rfl
  all_goals subst e;rfl
theorem Ei{B:az}(h:qbv B Bv){b:Nat}(e:aW B agg sz b off=some v):
 ∃u cs ds,aW Bv agg sz b off=some u/\v.fit u/\b5 B b=some cs/\b5 Bv b=some ds/\AV.fits cs ds/\v.own u=AV.owns ((cs.drop off).take (if agg then sz else 1)) ((ds.drop off).take (if agg then sz else 1))/\off+(if agg then sz else 1)<=cs.length:=by
 unfold aW at e⊢
 obtain⟨cs,q,e⟩:=aL.1 e;obtain⟨ds,H,C⟩:=h.get q;rw[H];simp only[bO];cases agg with
 |true=>
  simp only[if_true]at e⊢
  split at e
  ·rename_i w
   have g:=AV.qbp (AV.qbw C off) sz;rw[ay (by rw[<-AV.qao C];exact w)];cases m:bd ((cs.drop off).take sz)with
   |none=>
    rw[m]at e;simp only[p_]at e;split at e
    ·rename_i I
     simp only[ca]at e;subst e
     rw[Ow m g];simp only[p_];rw[NO g,ay I];have J:=PH g I;exact⟨_,cs,ds,rfl,by simp only[AV.fit];exact⟨_,rfl,g,J⟩,q,rfl,C,by rw[J];simp[AV.own],w⟩
    ·simp at e
   |some es=>
   rw[m]at e;simp only[p_,ca]at e;subst e;obtain⟨M,G,N,O⟩:=p9 m g;rw[G];simp only[p_];refine⟨_,cs,ds,rfl,by simp only[AV.fit,DV.fit];exact⟨_,rfl,_,rfl,N⟩,q,rfl,C,?_,w⟩;rw[O];simp[AV.own,DV.own]
  ·simp at e
 |false=>
  simp only[bg,if_false]at e⊢
  obtain⟨u,m,G⟩:=AV.qb2 C e;have D:off<cs.length:=(cw.1 e).1;have r:off<ds.length:=(cw.1 m).1;refine⟨u,cs,ds,m,G,q,rfl,C,?_,by omega⟩;rw[dS D,dS r];have K:cs[off]=v:=by rw[fp D]at e;exact Option.some.inj e
  have P:ds[off]=u:=by rw[fp r]at m;exact Option.some.inj m
  simp[AV.owns,K,P]
theorem Ms{cs ds:aw}{v:DV}(g:DV.fits cs ds)(h:cut agg sz cs=some v):∃u,cut agg sz ds=some u/\v.fit u:=by
 unfold cut at h⊢
 cases agg with
 |true=>
  simp only[if_true]at h⊢
  split at h
  ·rename_i e
   simp at h;subst h
   rw[ay (by rw[<-DV.qao g];exact e)];exact⟨_,rfl,by simp only[DV.fit];exact⟨_,rfl,DV.qbp g _⟩⟩
  ·simp at h
 |false=>
  simp only[bg,if_false]at h⊢
  exact DV.qb2 g h
theorem Rel.takeBox(h:Rel A0 T F p k sx sv)(dst:bi){b:Nat}(hl:aW sx.B agg sz b off=some v)(hk:k<=k')(c':Nat):
 ∃u,aW sv.B agg sz b off=some u/\Rel A0 T F p k' (a9 T (if cR T dst then⟨sx.r,qK sx.B b off (if agg then sz else 1)⟩else sx) dst v) {(sv.put dst u)with c:=c'}:=by
 obtain⟨u,cs,ds,h1,h2,h3,h4,J,h6,h7⟩:=Ei h.boxes hl;refine⟨u,h1,?_⟩;generalize (if agg then sz else 1)=m at h6 h7⊢
 have hb:b<sx.B.length:=by
  rcases lP b sx.B.length with hh|hh
  ·exact hh
  ·have:=lL.1 h3;rw[jm hh]at this;simp at this
 have C:bD sx.B sv.B b=AV.owns cs ds:=by unfold bD;rw[h3,h4]
 cases hT:cR T dst with
 |false=>simp only[bg,if_false];exact h.put dst h2 hk (fun h'=>by rw[hT]at h';simp at h') (fun i hi _=>hi) (fun _ hi=> .inl hi) c'
 |true=>
  simp only[if_true];have S:=AV.qbp (AV.qbw J off) m;obtain⟨Q,x3⟩:=AV.qbF _ _ S;have R:=AV.qao J;have O:splice ds off ((ds.drop off).take m)=ds:=by unfold splice;rw[xd,UO,HJ (by omega),bX,<-List.drop_drop,dJ,dJ]
  have P:=Ns J Q off;rw[O]at P;have g:=LS J Q off;rw[O,x3,AV.qcD,cS]at g;have x2:((cs.drop off).take m).length=m:=by simp;omega
  rw[x2]at g;have Y:=Nt (AV.qao J) off m;have H:qK sx.B b off m=sx.B.set b (some (splice cs off (AV.clrs ((cs.drop off).take m)))):=by unfold qK;rw[h3]
  have D:=h.box [] b P hb (by rw[g];exact(by rw[<-C];exact h.held.nodup (.box b):(AV.owns cs ds).Nodup).sublist Y) (fun a K=> .inl (by rw[C];rw[g]at K;exact Y.subset K));have N:sv.B.set b (some ds)=sv.B:=by
   apply oW;intro j
   by_cases M:b=j
   ·subst M
    have:=lL.1 h4;rw[j7,this];simp
   ·rw[jq M]
  rw[N]at D;rw[H];have I:bD (sx.B.set b (some (splice cs off (AV.clrs ((cs.drop off).take m))))) sv.B b=AV.owns (cs.take off) (ds.take off)++AV.owns (cs.drop (off+m)) (ds.drop (off+m)):=by unfold bD;rw[Aq hb,h4];exact g
  have e:(AV.owns cs ds).Nodup:=by rw[<-C];exact h.held.nodup (.box b)
  have w:AV.owns cs ds=AV.owns (cs.take off) (ds.take off)++(v.own u++AV.owns (cs.drop (off+m)) (ds.drop (off+m))):=by rw[AV.qb1 (AV.qao J) off,AV.qb1 (a:=cs.drop off) (c:=ds.drop off) (by simp[R]) m,h6,sj,sj]
  refine D.put dst h2 hk (fun _=>⟨?_,fun a K=> ?_⟩) (fun i hi _=>hi) (fun _ hi=> .inl hi) c'
  ·rw[w]at e
   rw[cJ]at e;exact(cJ.1 e.2.1).1
  ·have Z:a∈AV.owns cs ds:=by rw[w];simp[K]
   have G:a∈aU sx.r sx.B sv.r sv.B (.box b):=by simp only[aU];rw[C];exact Z
   obtain⟨q1,q2,q3⟩:=h.held.opn _ a G;refine⟨q1,q2,fun hf=>q3 (hf.le hk),fun ℓ hℓ hm=> ?_⟩;cases ℓ with
   |reg t=>have:=h.held.apart (.box b) (.reg t) a G hm;simp at this
   |box j=>
    by_cases M:j=b
    ·subst M
     have x1:a∈AV.owns (cs.take off) (ds.take off)++AV.owns (cs.drop (off+m)) (ds.drop (off+m)):=by have q:a∈bD (sx.B.set j (some (splice cs off (AV.clrs ((cs.drop off).take m))))) sv.B j:=hm;rw[I]at q;exact q
     rw[w]at e;rw[cJ]at e;obtain⟨_,n2,n3⟩:=e;rw[cJ]at n2;rcases bw.1 x1 with h8|h8
     ·exact n3 a h8 a (by simp[K]) rfl
     ·exact n2.2.2 a K a h8 rfl
    ·have q:a∈bD (sx.B.set b (some (splice cs off (AV.clrs ((cs.drop off).take m))))) sv.B j:=hm
     rw[Oa (fun he=>M he.symm)]at q;have:=h.held.apart (.box b) (.box j) a G q;simp at this;exact M this.symm
theorem DR(dst:bi)(v:AV):({(s.put dst v)with c:=s.c}:St)=s.put dst v:=by cases dst<;>rfl
theorem y7(dst:bi)(v:AV):(s.put dst v).c=s.c:=by cases dst<;>rfl
end
variable{o:VOper}{af:ae}{gd:qs}{z:aw}{bytes:Nat}
section
variable {A0:Ids} {T:ae} {F:Id->Prop} {p:Id} {sx sx':XS} {sv:St} {X:cf} {V:cj} {lin:Nat->ae} {draw:Bool} {L0 i:Nat}
def eB(A0:Ids)(T:ae)(F:Id->Prop)(p:Id)(V:cj)(draw:Bool)(L0 i:Nat)(o:VOper)(sv:St)(sx':XS):Prop:=∃e,b8 V p draw L0 i o sv=some e/\Rel A0 T F p (sv.c+i+1) sx' e/\e.c=sv.c
theorem eo(h:b8 V p draw L0 i o sv=some (s.put o.dst v))(hc:s.c=sv.c){e:XS}(g:Rel A0 T F p (sv.c+i+1) e {(s.put o.dst v)with c:=sv.c}):eB A0 T F p V draw L0 i o sv e:=by
 refine⟨_,h,?_,by rw[y7,hc]⟩;rw[<-hc]at g⊢
 rw[DR]at g;exact g
theorem qW8{dst:bi}(h:Rel A0 T F p (sv.c+i) sx sv)(hx:be X lin T draw L0 ⟨dst,.move x,gd,af⟩ sx=some sx'):eB A0 T F p V draw L0 i ⟨dst,.move x,gd,af⟩ sv sx':=by simp only[be]at hx;obtain⟨a,e,rfl⟩:=aN.1 hx;obtain⟨v,g,m⟩:=h.get e;refine eo (sv:=sv) (s:=sv) (v:=v) (by simp only[b8,bo,g,b9]) rfl (h.give dst [x] m ?_ (fun i hi=>⟨x,by simp,by rw[eN e g];exact hi⟩) (b7 _) _);rw[<-eN e g];exact h.qbn x
theorem Rel.getBool(h:Rel A0 T F p (sv.c+i) sx sv){b:Bool}(hx:bm sx.r x=some (au b)):x.get sv.r=some (au b):=by obtain⟨v,g,e⟩:=h.get hx;simp only[AV.fit,DV.fit]at e;obtain⟨y,rfl,rfl⟩:=e;exact g
theorem Rel.getInt(h:Rel A0 T F p (sv.c+i) sx sv){k:IntKind}{n:Int}(hx:bm sx.r x=some (.d (.int k n))):x.get sv.r=some (.d (.int k n)):=by obtain⟨v,g,e⟩:=h.get hx;simp only[AV.fit,DV.fit]at e;obtain⟨y,rfl,rfl⟩:=e;exact g
theorem Rel.getPtr(h:Rel A0 T F p (sv.c+i) sx sv){b o:Nat}(hx:bm sx.r x=some (.ptr b o)):x.get sv.r=some (.ptr b o):=by obtain⟨v,g,e⟩:=h.get hx;simp only[AV.fit]at e;subst e;exact g
theorem qW7{dst:bi}{c:VX}(h:Rel A0 T F p (sv.c+i) sx sv)(hx:be X lin T draw L0 ⟨dst,.pick c x y,gd,af⟩ sx=some sx'):eB A0 T F p V draw L0 i ⟨dst,.pick c x y,gd,af⟩ sv sx':=by
 simp only[be]at hx;split at hx
 ·rename_i hc
  obtain⟨a,e,rfl⟩:=aN.1 hx;obtain⟨v,g,m⟩:=h.get e;refine eo (sv:=sv) (s:=sv) (v:=v) (by simp only[b8,bo,h.getBool hc,g,b9]) rfl (h.give dst [x] m ?_ (fun i hi=>⟨x,by simp,by rw[eN e g];exact hi⟩) (b7 _) _);rw[<-eN e g];exact h.qbn x
 ·rename_i hc
  obtain⟨a,e,rfl⟩:=aN.1 hx;obtain⟨v,g,m⟩:=h.get e;refine eo (sv:=sv) (s:=sv) (v:=v) (by simp only[b8,bo,h.getBool hc,g,b9]) rfl (h.give dst [y] m ?_ (fun i hi=>⟨y,by simp,by rw[eN e g];exact hi⟩) (b7 _) _);rw[<-eN e g];exact h.qbn y
 ·simp at hx
theorem IC{B:az}(h:eK B n=true):n<B.length:=by
 unfold eK at h;split at h
 ·rename_i e;exact(cw.1 e).1
 ·simp at h
theorem TL{dst:bi}(h:Rel A0 T F p (sv.c+i) sx sv)(hx:be X lin T draw L0 ⟨dst,.alloc k z,gd,af⟩ sx=some sx'):eB A0 T F p V draw L0 i ⟨dst,.alloc k z,gd,af⟩ sv sx':=by
 simp only[be]at hx;split at hx
 ·rename_i hc
  simp at hx;subst hx
  have m:AV.fits (z.map fun z=>AV.d z.cn1) (z.map .d):=by have:=AV.qqE (DV.qkd z);rw[eX]at this;exact this
  have e:AV.owns (z.map fun z=>AV.d z.cn1) (z.map .d)=[]:=by
   have:z.map (fun z=>AV.d z.cn1)=(z.map DV.cn1).map .d:=by rw[eX];rfl
   rw[this,AV.qqD,DV.qin]
  have g:=h.box [] (L0+k) m (IC hc.1) (by rw[e];simp) (by rw[e];simp);refine eo (sv:=sv) (s:={sv with B:=sv.B.set (L0+k) (some (z.map .d))}) (v:= .ptr (L0+k) 0) (by simp only[b8];rw[ay ⟨by rw[h.boxes.free];exact hc.1,hc.2⟩]) rfl ?_;exact g.put0 dst (by simp[AV.fit]) (by simp[AV.own]) (b7 _) _
 ·simp at hx
theorem q34{dst:bi}(h:Rel A0 T F p (sv.c+i) sx sv)(hx:be X lin T draw L0 ⟨dst,.box k x,gd,af⟩ sx=some sx'):eB A0 T F p V draw L0 i ⟨dst,.box k x,gd,af⟩ sv sx':=by
 simp only[be]at hx;obtain⟨a,e,hx⟩:=aL.1 hx;obtain⟨v,g,m⟩:=h.get e;split at hx
 ·rename_i hc
  simp at hx;subst hx
  have q:=AV.qbe m;have r:=AV.qdJ m;have u:=h.box [x] (L0+k) q (IC hc.1) (by rw[r,<-eN e g];exact h.qbn x) (fun i hi=> .inr ⟨x,by simp,by rw[eN e g,<-r];exact hi⟩);refine eo (sv:=sv) (s:={sv with B:=sv.B.set (L0+k) (some v.cells)}) (v:= .ptr (L0+k) 0) (by simp only[b8,g,bO];rw[ay ⟨by rw[h.boxes.free];exact hc.1,by rw[AV.qdd q];exact hc.2.1,by rw[AV.ql5 _ _ _ m];exact hc.2.2⟩]) rfl ?_;exact u.put0 dst (by simp[AV.fit]) (by simp[AV.own]) (b7 _) _
 ·simp at hx
theorem Yw{dst:bi}{ps:nq}(h:Rel A0 T F p (sv.c+i) sx sv)(u:c6 T (ps.map fun q=>q.2.2)=true)(hx:be X lin T draw L0 ⟨dst,.build z ps,gd,af⟩ sx=some sx'):eB A0 T F p V draw L0 i ⟨dst,.build z ps,gd,af⟩ sv sx':=by
 simp only[be]at hx;obtain⟨cs,g,rfl⟩:=aN.1 hx;obtain⟨ds,r,w,C,D⟩:=Mn h ps _ z cs u g (DV.qkd z) (by rw[DV.qin];simp) (by rw[DV.qin];simp);refine eo (sv:=sv) (s:=sv) (v:= .d (.agg ds)) (by simp only[b8,bo,r,b9]) rfl (h.give dst _ (by simp only[AV.fit,DV.fit];exact⟨_,rfl,_,rfl,w⟩) (by simpa[AV.own,DV.own]using C) (fun i hi=> ?_) (b7 _) _);rcases D i (by simpa[AV.own,DV.own]using hi)with e|⟨x,e,m⟩
 ·rw[DV.qin]at e;simp at e
 ·exact⟨x,e,m⟩
theorem X0(n:Nat)(z:DV):DV.fits (List.replicate n z.cn) (List.replicate n z):=by
 rw[DV.qbq];refine⟨by simp,fun i x y hx hy=> ?_⟩;rw[Hy]at hx hy;split at hx<;>simp_all
 rw[<-hx,<-hy];exact DV.qvn _
theorem Gj(n:Nat)(z:DV)(l:aw):DV.owns (List.replicate n z.cn) l=[]:=by
 induction n generalizing l with
 |zero=>simp[DV.owns]
 |succ n e=>cases l<;>simp[mo,DV.owns,DV.qLr,e]
theorem AE(p:Id)(k:Nat)(A:Ids):∀a,Ids.add (k::p) A a=true->A a=true\/(Fut p 0 a/\¬Fut p (k+1) a):=by
 intro a e;simp only[Ids.add,jr,cB]at e;rcases e with rfl|e
 ·exact .inr ⟨(Fut.self p k).le (c8 _),Fut.qsd (nL _)⟩
 ·exact .inl e
theorem qsy{dst:bi}{z:DV}{ps:mM}(h:Rel A0 T F p (sv.c+i) sx sv)(P:c6 T (ps.map fun q=>q.2)=true)(hx:be X lin T draw L0 ⟨dst,.buildSlice sz z n ps,gd,af⟩ sx=some sx'):eB A0 T F p V draw L0 i ⟨dst,.buildSlice sz z n ps,gd,af⟩ sv sx':=by
 simp only[be]at hx;split at hx
 ·rename_i hc
  obtain⟨cs,h1,rfl⟩:=aN.1 hx;obtain⟨ds,O,h3,S,Q,R⟩:=PC h sz ps _ (List.replicate n z) cs P h1 (X0 n z) (fun e I=>by rw[(List.mem_replicate.1 I).2];exact hc.1) (by rw[Gj];simp) (by rw[Gj];simp);have u:(AV.d (.sl U cs)).fit (.d (.sl (.own ((sv.c+i)::p) sz) ds)):=by
   simp only[AV.fit,DV.fit];refine⟨_,rfl,_,_,rfl,h3,.inr ⟨rfl,?_⟩⟩
   by_cases K:cs.length=0
   ·exact .inl ⟨K,.inr ⟨_,_,rfl⟩⟩
   ·exact .inr ⟨K,_,_,rfl,S⟩
  have w:∀a,a∈DV.owns cs ds->∃x,x∈ps.map (fun q=>q.2)/\a∈cA sx.r sv.r x:=fun a g=>by
   rcases R a g with D|D
   ·rw[Gj]at D;simp at D
   ·exact D
  have G:∀a,a∈(AV.d (.sl U cs)).own (.d (.sl (.own ((sv.c+i)::p) sz) ds))->a=(sv.c+i)::p\/a∈DV.owns cs ds:=by
   intro a g;simp only[AV.own,DV.own,bw]at g;rcases g with g|g
   ·split at g<;>simp[Tag.ids]at g
    exact .inl g
   ·exact .inr g
  have m:∀ℓ,(sv.c+i)::p∉aU sx.r sx.B sv.r sv.B ℓ:=fun ℓ C=>(h.held.opn ℓ _ C).2.2 (Fut.self p _)
  have J:((AV.d (.sl U cs)).own (.d (.sl (.own ((sv.c+i)::p) sz) ds))).Nodup:=by
   simp only[AV.own,DV.own];rw[cJ];refine⟨by split<;>simp[Tag.ids],Q,fun a g b hb I=> ?_⟩;split at g<;>simp[Tag.ids]at g
   subst g;subst I
   obtain⟨x,_,H⟩:=w _ hb;obtain⟨N,rfl,_,Y⟩:=h.qeL H;exact m (.reg N) Y
  refine eo (sv:=sv) (s:={sv with A:=Ids.add ((sv.c+i)::p) sv.A}) (v:= .d (.sl (.own ((sv.c+i)::p) sz) ds)) (by simp only[b8,O,b9];rw[ay hc]) rfl ?_;cases hT:cR T dst with
  |false=>rw[OT hT];exact h.put dst u (b7 _) (fun h'=>by rw[hT]at h';simp at h') (fun a g _=>by simp[Ids.add,g]) (AE p _ sv.A) _
  |true=>
   rw[Mu hT];refine(h.drops _).put dst u (b7 _) (fun _=>⟨J,fun a g=> ?_⟩) (fun a g _=>by simp[Ids.add,g]) (AE p _ sv.A) _;rcases G a g with rfl|g
   ·refine⟨by simp[Ids.add],fun M=>(h.held.fr _ M).2 (Fut.self p _),Fut.qsd (nL _),fun ℓ _ C=> ?_⟩
    refine m ℓ ?_;cases ℓ with
    |reg t=>simp only[aU,mc]at C⊢;split at C<;>first|(simp at C;done)|exact C
    |box j=>exact C
   ·obtain⟨x,D,H⟩:=w a g
    obtain⟨Z,q2,q3⟩:=h.qdI H;exact⟨by simp[Ids.add,Z],q2,fun hf=>q3 (hf.le (b7 _)),fun ℓ _=>h.qec D H ℓ⟩
 ·simp at hx
theorem qvA{dst:bi}{z:DV}(h:Rel A0 T F p (sv.c+i) sx sv)(hx:be X lin T draw L0 ⟨dst,.makeSlice k sz bytes z x,gd,af⟩ sx=some sx'):eB A0 T F p V draw L0 i ⟨dst,.makeSlice k sz bytes z x,gd,af⟩ sv sx':=by
 simp only[be]at hx;split at hx
 ·rename_i w n r
  split at hx
  ·rename_i hc
   simp at hx;subst hx
   have g:DV.fits ((List.replicate n.toNat z.cn).flatMap DV.cells) ((List.replicate n.toNat z).flatMap DV.cells):=by
    generalize n.toNat=m
    induction m with
    |zero=>simp[DV.fits]
    |succ m q=>simp only[mo,mC];exact DV.qa6 (DV.qbe (DV.qvn z)) q
   have e:DV.owns ((List.replicate n.toNat z.cn).flatMap DV.cells) ((List.replicate n.toNat z).flatMap DV.cells)=[]:=by
    generalize n.toNat=m
    induction m with
    |zero=>simp[DV.owns]
    |succ m q=>simp only[mo,mC];rw[DV.qa0 (DV.qao (DV.qbe (DV.qvn z))),DV.qdJ (DV.qvn z),DV.qLr,q];rfl
   have u:=h.box [] (L0+k) (AV.qqE g) (IC hc.2.1) (by rw[AV.qqD,e];simp) (by rw[AV.qqD,e];simp);refine eo (sv:=sv) (s:={sv with B:=sv.B.set (L0+k) (some (((List.replicate n.toNat z).flatMap DV.cells).map .d))}) (v:= .bsl ((sv.c+i)::p) (isAgg z) (L0+k) sz n.toNat) (by simp only[b8,h.getInt r];rw[ay ⟨hc.1,by rw[h.boxes.free];exact hc.2.1,hc.2.2⟩];cases z<;>rfl) rfl ?_;exact u.put0 dst (by simp[AV.fit]) (by simp[AV.own]) (b7 _) _
  ·simp at hx
 ·simp at hx
theorem DV.qvl:∀(xs ys:aw) (n:Nat),(DV.owns (xs.take n) (ys.take n)).Sublist (DV.owns xs ys)
 | [],ys,n=>by simp[DV.owns]
 |x::xs,[],n=>by simp[DV.owns]
 |x::xs,y::ys,0=>by simp[DV.owns]
 |x::xs,y::ys,n+1=>by simp only[Bz,DV.owns];exact jg (ct _) (DV.qvl xs ys n)
theorem Zl{cs ds:aw}{v u:DV}(h:cut agg sz cs=some v)(h':cut agg sz ds=some u):(v.own u).Sublist (DV.owns cs ds):=by
 unfold cut at h h';cases agg with
 |true=>
  simp only[if_true]at h h';split at h
  ·split at h'
   ·simp at h h';subst h;subst h'
    simp only[DV.own];exact DV.qvl cs ds sz
   ·simp at h'
  ·simp at h
 |false=>simp only[bg,if_false]at h h';exact DV.qb7 h h'
theorem ZC{dst:bi}(h:Rel A0 T F p (sv.c+i) sx sv)(hx:be X lin T draw L0 ⟨dst,.load agg sz x,gd,af⟩ sx=some sx'):eB A0 T F p V draw L0 i ⟨dst,.load agg sz x,gd,af⟩ sv sx':=by
 simp only[be]at hx;split at hx
 ·rename_i cs g
  obtain⟨v,m,rfl⟩:=aN.1 hx;obtain⟨u,q,r⟩:=h.get g;simp only[AV.fit]at r;obtain⟨ds,rfl,J⟩:=r;obtain⟨w,D,I⟩:=Ms J m;have G:=Zl m D;have C:=eN g q;simp only[AV.own]at C;refine eo (sv:=sv) (s:=sv) (v:= .d w) (by simp only[b8,q,D,b9]) rfl (h.give dst [x] (by simp only[AV.fit];exact⟨_,rfl,I⟩) ?_ (fun i hi=>⟨x,by simp,by rw[C];exact G.subset (by simpa only[AV.own]using hi)⟩) (b7 _) _);have e:=h.qbn x;rw[C]at e;simp only[AV.own];exact e.sublist G
 ·rename_i b off g
  split at hx
  ·simp at hx
  ·rename_i H
   obtain⟨v,m,rfl⟩:=aN.1 hx;obtain⟨u,q,r⟩:=h.takeBox dst m (b7 _) sv.c;exact eo (sv:=sv) (s:=sv) (v:=u) (by simp only[b8,h.getPtr g,q,b9];rw[aC H]) rfl r
 ·simp at hx
theorem LZ{dst:bi}{init:Bool}{a:VX}(h:Rel A0 T F p (sv.c+i) sx sv)(hx:be X lin T draw L0 ⟨dst,.store init sz a x,gd,af⟩ sx=some sx'):eB A0 T F p V draw L0 i ⟨dst,.store init sz a x,gd,af⟩ sv sx':=by
 simp only[be]at hx;split at hx
 ·rename_i b off v Y O
  split at hx
  ·simp at hx
  ·rename_i Z
   obtain⟨B',Q,rfl⟩:=aN.1 hx;unfold pA at Q;obtain⟨cs,K,H⟩:=aL.1 Q;split at H
   ·rename_i hc
    simp at H;subst H
    obtain⟨u,N,I⟩:=h.get O;obtain⟨ds,P,G⟩:=h.boxes.get K;have w:=AV.qbe I;have hb:b<sx.B.length:=by
     rcases lP b sx.B.length with M|M
     ·exact M
     ·have:=lL.1 K;rw[jm M]at this;simp at this
    have g:bD sx.B sv.B b=AV.owns cs ds:=by unfold bD;rw[K,P]
    have m:AV.owns v.cells u.cells=cA sx.r sv.r x:=by rw[AV.qdJ I,eN O N]
    have C:=Nt (AV.qao G) off v.cells.length;have R:=LS G w off;have D:=h.box [x] b (Ns G w off) hb (by
     rw[R];refine Hz C (by rw[<-g];exact h.held.nodup (.box b)) (by rw[m];exact h.qbn x) (fun q e S=> ?_);rw[m]at e;obtain⟨n,rfl,hn,J⟩:=h.qeL e;have:=h.held.apart (.reg n) (.box b) q J (by simp only[aU];rw[g];exact S);simp at this) (fun q e=>by
     rw[R]at e;simp only[bw]at e;rcases e with(e|e)|e
     ·exact .inl (by rw[g];exact C.subset (by simp[e]))
     ·exact .inr ⟨x,by simp,by rw[<-m];exact e⟩
     ·exact .inl (by rw[g];exact C.subset (by simp[e])))
    refine eo (sv:=sv) (s:={sv with B:=sv.B.set b (some (splice ds off u.cells))}) (v:= .und) (by
     simp only[b8,h.getPtr Y,N];rw[aC Z];simp only[vT,P,bO];rw[ay ⟨by rw[AV.qbG I];exact hc.1,by rw[<-AV.qao G];exact hc.2.1,by rw[AV.qdd w];exact hc.2.2.1,by rw[AV.ql5 _ _ _ I];exact hc.2.2.2⟩];rfl) rfl ?_
    exact D.put0 dst (by simp[AV.fit]) (by simp[AV.own]) (b7 _) _
   ·simp at H
 ·simp at hx
theorem Sd{dst:bi}{a:VX}{av:ae}(h:Rel A0 T F p (sv.c+i) sx sv)(hx:be X lin T draw L0 ⟨dst,.storeN sz a x av,gd,af⟩ sx=some sx'):eB A0 T F p V draw L0 i ⟨dst,.storeN sz a x av,gd,af⟩ sv sx':=by
 simp only[be]at hx;split at hx
 ·rename_i b off v D M
  split at hx
  ·simp at hx
  ·rename_i hc
   simp only[jr,not_or,Bool.not_eq_true',Bool.not_eq_false]at hc;have q:be X lin T draw L0 ⟨dst,.store false sz a x,gd,af⟩ sx=some sx':=by simp only[be,D,M];rw[aC hc.1];exact hx
   obtain⟨m,e,O⟩:=LZ (X:=X) (V:=V) h q;refine⟨m,?_,O⟩;have g:lV sv.r b av=true:=by
    unfold lV;rw[cm];intro t I;have:=cm.1 hc.2 t I;split at this
    ·rename_i b' C N
     obtain⟨y,K,u⟩:=h.regs t _ N;simp only[AV.fit]at u;subst u
     rw[K];exact this
    ·simp at this
   simp only[b8,h.getPtr D]at e⊢
   split at e
   ·rename_i Q G w H P
    simp only[ca,AV.ptr.injEq]at H;obtain⟨rfl,rfl⟩:=H;split at e
    ·simp at e
    ·rename_i J
     rw[aC (by simp only[jr,not_or];exact⟨J,by rw[g];simp⟩)];exact e
   ·simp at e
 ·simp at hx
end
section
variable {A0:Ids} {T:ae} {F:Id->Prop} {p:Id} {sx sx':XS} {sv:St} {X:cf} {V:cj} {lin:Nat->ae} {draw:Bool} {L0 i:Nat}
theorem T9(h:DV.fits xs ys)(hx:∀e:DV,e∈xs->e.cells.length=sz/\e.cells.all DV.isCell=true):∀e:DV,e∈ys->e.cells.length=sz/\e.cells.all DV.isCell=true:=by
 intro e r;obtain⟨j,m⟩:=jC.1 r;obtain⟨w,C⟩:=(DV.qbq _ _).1 h;have g:j<xs.length:=by rw[w];exact(cw.1 m).1
 have q:=C j xs[j] e (by simp[g]) m;obtain⟨D,u⟩:=hx _ (gB g);exact⟨by rw[DV.qbG q];exact D,by rw[DV.qdd (DV.qbe q)];exact u⟩
theorem Zo(h:DV.fits xs ys)(hx:∀e:DV,e∈xs->e.cells.length=sz):∀e:DV,e∈ys->e.cells.length=sz:=by
 intro e q;obtain⟨j,m⟩:=jC.1 q;obtain⟨r,w⟩:=(DV.qbq _ _).1 h;have g:j<xs.length:=by rw[r];exact(cw.1 m).1
 have u:=w j xs[j] e (by simp[g]) m;rw[DV.qbG u];exact hx _ (gB g)
theorem qMq{dst:bi}(h:Rel A0 T F p (sv.c+i) sx sv)(hl:c6 T [x,y]=true)(hx:be X lin T draw L0 ⟨dst,.append sz bytes x y,gd,af⟩ sx=some sx'):eB A0 T F p V draw L0 i ⟨dst,.append sz bytes x y,gd,af⟩ sv sx':=by
 simp only[be]at hx;split at hx
 ·rename_i v w h1 h2
  obtain⟨u,K,rfl⟩:=aN.1 hx;obtain⟨v',h4,h5⟩:=h.get h1;obtain⟨w',h6,h7⟩:=h.get h2;have ox:=eN h1 h4;have oy:=eN h2 h6;simp only[AV.fit]at h5 h7;obtain⟨v',rfl,h5⟩:=h5;obtain⟨w',rfl,h7⟩:=h7;have x3:∀L:cg,x∈(if cR T dst then [x,y]else [x]):=fun _=>by split<;>simp
  have J:∀a,a∈cA sx.r sv.r x->a∉cA sx.r sv.r y:=fun a C=>h.qf9 (fun n hx hn D=>by
   subst hx;subst D
   exact(qV hl).1 n rfl hn (by simp)) C
  unfold bU at K;split at K
  ·rename_i g xs gy ys
   simp only[DV.fit]at h5 h7;obtain⟨g',m,rfl,S,htx⟩:=h5;obtain⟨gy',q,rfl,b1,hty⟩:=h7;have Y:=DV.qao S;have R:=DV.qao b1;split at K
   ·rename_i c2
    have hall:∀e:DV,e∈ys->e.cells.length=sz/\e.cells.all DV.isCell=true:=by intro e D;have:=cm.1 c2 e D;simp only[cB]at this;exact this
    have O:=T9 b1 hall;have Q:q.all (fun e=>decide (e.cells.length=sz/\e.cells.all DV.isCell=true))=true:=by rw[cm];intro e D;simp only[cB];exact O e D
    split at K
    ·rename_i a2
     simp at a2;subst a2
     have:q=[]:=by rw[<-List.length_eq_zero_iff];simpa using R.symm
     subst this;simp at K;subst K
     refine eo (sv:=sv) (s:=sv) (v:= .d (.sl g' m)) (by simp only[b8,h4,h6];simp[qU]) rfl ?_;have hft:(AV.d (.sl g xs)).fit (.d (.sl g' m)):=by simp only[AV.fit,DV.fit];exact⟨_,rfl,_,_,rfl,S,htx⟩
     refine(h.drops _).put dst hft (b7 _) (fun _=>⟨by rw[<-ox];exact h.qbn x,fun a C=> ?_⟩) (fun a C _=>C) (fun _ hi=> .inl hi) _;rw[<-ox]at C;obtain⟨q1,q2,q3⟩:=h.qdI C;exact⟨q1,q2,fun hf=>q3 (hf.le (b7 _)),fun ℓ _=>h.qec (x3 []) C ℓ⟩
    ·rename_i hne0
     have hne:ys≠[]:=by simpa using hne0
     have hne':q≠[]:=by intro D;subst D;simp at R;exact hne R
     have N:q.isEmpty=false:=by cases q<;>simp_all
     split at K
     ·rename_i hc
      obtain⟨x1,rfl,x2⟩:=hc;simp at K;subst K
      have b2:∀e:DV,e∈xs->e.cells.length=sz:=by intro e D;have:=cm.1 x2 e D;simpa using this
      have H:(m.length+q.length)*bytes<=140737488355328:=by rw[<-Y,<-R];exact x1
      have hel:∀e:DV,e∈m++q->e.cells.length=sz:=by
       intro e D;rcases bw.1 D with D|D
       ·exact Zo S b2 e D
       ·exact(O e D).1
      have hfit:(AV.d (.sl U (xs++ys))).fit (.d (.sl (.own ((sv.c+i)::p) sz) (m++q))):=by simp only[AV.fit,DV.fit];refine⟨_,rfl,_,_,rfl,DV.qa6 S b1,.inr ⟨rfl,.inr ⟨by simp[hne],_,_,rfl,hel⟩⟩⟩
      have hown:(AV.d (.sl U (xs++ys))).own (.d (.sl (.own ((sv.c+i)::p) sz) (m++q)))=((sv.c+i)::p)::(DV.owns xs m++DV.owns ys q):=by simp only[AV.own,DV.own];rw[ay ⟨trivial,by simp[hne]⟩,DV.qa0 Y];simp[Tag.ids]
      have Z:∀a,a∈DV.owns xs m->a∈cA sx.r sv.r x:=fun a C=>by rw[ox];simp[AV.own,DV.own,C]
      have P:∀a,a∈DV.owns ys q->a∈cA sx.r sv.r y:=fun a C=>by rw[oy];simp[AV.own,DV.own,C]
      have a1:∀ℓ,(sv.c+i)::p∉aU sx.r sx.B sv.r sv.B ℓ:=fun ℓ G=>(h.held.opn ℓ _ G).2.2 (Fut.self p _)
      have M:∀z,(sv.c+i)::p∉cA sx.r sv.r z:=fun z G=>by obtain⟨n,rfl,_,h8⟩:=h.qeL G;exact a1 (.reg n) h8
      have hnd:(((sv.c+i)::p)::(DV.owns xs m++DV.owns ys q)).Nodup:=by
       rw[B8,cJ];refine⟨fun G=> ?_,(h.qbn x).sublist (by rw[ox];simp only[AV.own,DV.own];exact j6 _ _),(h.qbn y).sublist (by rw[oy];simp only[AV.own,DV.own];exact j6 _ _),fun a C b hb D=> ?_⟩
       ·rcases bw.1 G with G|G
        ·exact M x (Z _ G)
        ·exact M y (P _ G)
       ·subst D;exact J a (Z a C) (P a hb)
      have hV:∃A',qU sv ((sv.c+i)::p) sz bytes (.sl g' m) (.sl gy' q)=some (.d (.sl (.own ((sv.c+i)::p) sz) (m++q)),{sv with A:=A'})/\A' ((sv.c+i)::p)=true/\
       (∀a,sv.A a=true->(a∉cA sx.r sv.r x\/a∈DV.owns xs m)->A' a=true)/\∀a,A' a=true->sv.A a=true\/(Fut p 0 a/\¬Fut p (sv.c+i+1) a):=by
       rcases htx with h8|⟨_,h8⟩
       ·exact absurd h8 (by decide)
       rcases h8 with⟨h9,h10⟩|⟨h9,a0,sz',rfl,h11⟩
       ·have hx0:m=[]:=by rw[<-List.length_eq_zero_iff];omega
        subst hx0;refine⟨Ids.add ((sv.c+i)::p) sv.A,?_,by simp[Ids.add],fun a C _=>by simp[Ids.add,C],AE p _ sv.A⟩;have hb0:(([]:aw).length+q.length)*bytes<=140737488355328:=H;unfold qU;simp only;rw[ay Q,N];simp only[bg,if_false];rw[ay hb0];rcases h10 with rfl|⟨a0,s0,rfl⟩<;>simp
       ·have hxne:m≠[]:=by intro D;subst D;simp at Y;exact h9 (by rw[Y];rfl)
        have hxemp:m.isEmpty=false:=by cases m<;>simp_all
        have hs:sz'=sz:=by obtain⟨e,D⟩:=List.exists_mem_of_ne_nil m hxne;rw[<-h11 e D,hel e (by simp[D])]
        have a3:a0∈cA sx.r sv.r x:=by rw[ox];simp only[AV.own,DV.own];rw[ay ⟨trivial,h9⟩];simp[Tag.ids]
        obtain⟨ha0,_,_⟩:=h.qdI a3;refine⟨Ids.add ((sv.c+i)::p) (Ids.del a0 sv.A),?_,by simp[Ids.add],fun a C I=> ?_,fun a C=>(AE p _ _ a C).imp_left fun h=>by simp[Ids.del]at h;exact h.2⟩
        ·unfold qU
         simp only;rw[ay Q,N];simp only[bg,if_false];rw[ay H,hxemp];simp only[bg,if_false];rw[ay ⟨hs,ha0⟩]
        ·have hne2:a≠a0:=by
          rintro rfl
          rcases I with I|I
          ·exact I a3
          ·have:=h.qbn x
           rw[ox]at this;simp only[AV.own,DV.own]at this;rw[ay ⟨trivial,h9⟩]at this;simp only[Tag.ids,List.singleton_append,B8]at this;exact this.1 I
         simp[Ids.add,Ids.del,hne2,C]
      obtain⟨A',hV1,hV2,c1,hV4⟩:=hV;refine eo (sv:=sv) (s:={sv with A:=A'}) (v:= .d (.sl (.own ((sv.c+i)::p) sz) (m++q))) (by simp only[b8,h4,h6,hV1,b9]) rfl ?_;refine(h.drops _).put dst hfit (b7 _) (fun hT=> ?_) (fun a C I=>c1 a C (.inl ?_)) hV4 _
      ·rw[hown]
       refine⟨hnd,fun a C=> ?_⟩;simp only[hT,if_true];rcases cE.1 C with rfl|C
       ·refine⟨hV2,fun hF=>(h.held.fr _ hF).2 (Fut.self p _),Fut.qsd (nL _),fun ℓ _ G=> ?_⟩
        refine a1 ℓ ?_;cases ℓ with
        |reg t=>simp only[aU,mc]at G⊢;split at G<;>first|(simp at G;done)|exact G
        |box j=>exact G
       ·rcases bw.1 C with C|C
        ·obtain⟨q1,q2,q3⟩:=h.qdI (Z a C)
         exact⟨c1 a q1 (.inr C),q2,fun hf=>q3 (hf.le (b7 _)),fun ℓ _=>h.qec (by simp) (Z a C) ℓ⟩
        ·obtain⟨q1,q2,q3⟩:=h.qdI (P a C)
         exact⟨c1 a q1 (.inl fun G=>J a G (P a C)),q2,fun hf=>q3 (hf.le (b7 _)),fun ℓ _=>h.qec (by simp) (P a C) ℓ⟩
      ·intro G
       rcases I with hF|⟨ℓ,hℓ⟩
       ·exact(h.qdI G).2.1 hF
       ·exact h.qec (x3 []) G ℓ hℓ
     ·simp at K
   ·simp at K
  ·simp at K
 ·simp at hx
theorem qEK{dst:bi}(h:Rel A0 T F p (sv.c+i) sx sv)(hx:be X lin T draw L0 ⟨dst,.extract x k,gd,af⟩ sx=some sx'):eB A0 T F p V draw L0 i ⟨dst,.extract x k,gd,af⟩ sv sx':=by
 simp only[be]at hx;split at hx
 ·rename_i vs h1
  obtain⟨v,Q,rfl⟩:=aN.1 hx;obtain⟨w,S,Z⟩:=h.get h1;simp only[AV.fit]at Z;obtain⟨us,rfl,R,Y⟩:=Z;obtain⟨u,h7,h8⟩:=AV.qb2 R Q;refine eo (sv:=sv) (s:=sv) (v:=u) (by simp only[b8,bo,S,h7,b9]) rfl ?_;exact h.put0 dst (AV.qde _ _ h8) (AV.qbN _ _) (b7 _) _
 ·rename_i vs h1
  obtain⟨v,Q,rfl⟩:=aN.1 hx;obtain⟨w,S,Z⟩:=h.get h1;have G:=eN h1 S;simp only[AV.fit,DV.fit]at Z;obtain⟨_,rfl,us,rfl,R⟩:=Z;obtain⟨u,Y,h7⟩:=DV.qb2 R Q;have I:(AV.d v).fit (.d u):=by simp only[AV.fit];exact⟨_,rfl,h7⟩
  refine eo (sv:=sv) (s:=sv) (v:= .d u) (by simp only[b8,bo,S,Y,b9]) rfl ?_;have hk:k<vs.length:=(cw.1 Q).1;have a1:k<us.length:=(cw.1 Y).1;have e:(v.own u).Sublist (DV.owns vs us):=DV.qb7 Q Y;simp only[AV.own,DV.own]at G;cases hT:cR T dst with
  |false=>
   have key:Rel A0 T F p (sv.c+i+1) (a9 T sx dst (.d v)) {(sv.put dst (.d u))with c:=sv.c}:=h.put dst I (b7 _) (fun h'=>by rw[hT]at h';simp at h') (fun a D _=>D) (fun _ hi=> .inl hi) _;cases x with
   |c q=>exact key
   |t n=>simp only[re,bg,if_false];exact key
  |true=>
   have none:(v.own u=[])->Rel A0 T F p (sv.c+i+1) (a9 T sx dst (.d v)) {(sv.put dst (.d u))with c:=sv.c}:=fun h0=>h.put0 dst I (by simpa[AV.own]using h0) (b7 _) _
   cases x with
   |c q=>refine none ?_;rw[IJ]at G;rw[<-G]at e;exact tw.1 e
   |t n=>
    cases hn:T.contains n with
    |false=>simp only[hn,wL,bg,if_false];refine none ?_;rw[ss,h.nl n hn]at G;rw[<-G]at e;exact tw.1 e
    |true=>
     simp only[hn,Bool.and_self,if_true];rw[ss]at G;have H:us.set k u=us:=by
      apply oW;intro j
      by_cases hj:k=j
      ·subst hj;rw[j7,Y];simp
      ·rw[jq hj]
     have x1:=C5 R (i:=k) (DV.qde _ _ h7);have M:=qJ R hk v.clr u;have O:=qJ R hk v u;have J:vs.set k v=vs:=by
      apply oW;intro j
      by_cases hj:k=j
      ·subst hj;rw[j7,Q];simp
      ·rw[jq hj]
     rw[H]at x1 M;rw[H,J]at O;rw[DV.qbN,cS]at M;have x2:bp ((n,AV.d (.tup (vs.set k v.clr)))::sx.r) sv.r n=DV.owns (vs.take k) (us.take k)++DV.owns (vs.drop (k+1)) (us.drop (k+1)):=by have x3:lk sv.r n=some (.d (.tup us)):=S;unfold bp;rw[x3];simp only[lk,if_true,AV.own,DV.own];exact M
     have K:∀t,t≠n->bp ((n,AV.d (.tup (vs.set k v.clr)))::sx.r) sv.r t=bp sx.r sv.r t:=fun t g=>by unfold bp;simp only[lk];rw[aC g]
     have P:(bp ((n,AV.d (.tup (vs.set k v.clr)))::sx.r) sv.r n).Sublist (bp sx.r sv.r n):=by rw[x2,G,O,bX];exact jg (ct _) (j6 _ _)
     have hR:Rel A0 T F p (sv.c+i) ⟨(n,.d (.tup (vs.set k v.clr)))::sx.r,sx.B⟩ sv:=by
      refine⟨fun t y hy=> ?_,h.boxes,h.held.shrink (fun ℓ=> ?_) (fun a D _=>D) (fun _ hf=>hf),fun t g=> ?_,fun t g=> ?_,h.am⟩
      ·simp only[lk]at hy
       split at hy
       ·rename_i he;subst he
        simp at hy;subst hy
        exact⟨_,S,by simp only[AV.fit,DV.fit];exact⟨_,rfl,_,rfl,x1⟩⟩
       ·exact h.regs t y hy
      ·cases ℓ with
       |reg t=>
        simp only[aU]
        by_cases g:t=n
        ·subst g;exact P
        ·rw[K t g];exact ct _
       |box j=>exact ct _
      ·have:t≠n:=by rintro rfl;rw[hn]at g;simp at g
       rw[K t this];exact h.nl t g
      ·simp only[lk]at g
       split at g
       ·simp at g
       ·exact h.no t g
     have m:=h.held.nodup (.reg n);simp only[aU]at m;rw[G,O,bX]at m;refine hR.put dst I (b7 _) (fun _=>⟨?_,fun a D=> ?_⟩) (fun a D _=>D) (fun _ hi=> .inl hi) _
     ·exact(cJ.1 (cJ.1 m).2.1).1
     ·simp only[AV.own]at D
      have N:a∈aU sx.r sx.B sv.r sv.B (.reg n):=by simp only[aU];rw[G];exact e.subset D
      obtain⟨q1,q2,q3⟩:=h.held.opn _ a N;refine⟨q1,q2,fun hf=>q3 (hf.le (b7 _)),fun ℓ _ C=> ?_⟩;cases ℓ with
      |reg t=>
       simp only[aU]at C
       by_cases g:t=n
       ·subst g
        rw[x2]at C;rw[cJ]at m;obtain⟨_,n2,n3⟩:=m;rw[cJ]at n2;rcases bw.1 C with C|C
        ·exact n3 a C a (by simp[D]) rfl
        ·exact n2.2.2 a D a C rfl
       ·rw[K t g]at C
        have:=h.held.apart (.reg n) (.reg t) a N C;simp at this;exact g this.symm
      |box j=>have:=h.held.apart (.reg n) (.box j) a N C;simp at this
 ·simp at hx
theorem KJ(g:o.op.gen=true)(h:Rel A0 T F p (sv.c+i) sx sv)(hx:(bo sx.r o.op).map (fun v=>a9 T sx o.dst v.clr)=some sx')(e:b8 V p draw L0 i o sv=(bo sv.r o.op).map fun v=>sv.put o.dst v):eB A0 T F p V draw L0 i o sv sx':=by obtain⟨a,m,rfl⟩:=aN.1 hx;obtain⟨v,u,q⟩:=Xa h.er g m;refine eo (sv:=sv) (s:=sv) (v:=v) (by rw[e,u];rfl) rfl ?_;exact h.put0 o.dst q (AV.qbN _ _) (b7 _) _
theorem Qk{dst:bi}{arr:bi}(h:Rel A0 T F p (sv.c+i) sx sv)(hx:be X lin T draw L0 ⟨dst,.indexAddr sz arr x y,gd,af⟩ sx=some sx'):eB A0 T F p V draw L0 i ⟨dst,.indexAddr sz arr x y,gd,af⟩ sv sx':=by
 have gen:(bo sx.r (.indexAddr sz arr x y)).map (fun v=>a9 T sx dst v.clr)=some sx'->eB A0 T F p V draw L0 i ⟨dst,.indexAddr sz arr x y,gd,af⟩ sv sx':=fun hx=>KJ (o:=⟨dst,.indexAddr sz arr x y,gd,af⟩) (by rfl) h hx (by rfl)
 simp only[be]at hx;unfold xJ at hx;split at hx
 ·rename_i n hT
  split at hx
  ·rename_i g xs kd k h1 h2
   split at hx
   ·rename_i a3
    obtain⟨e,h4,h5⟩:=aL.1 hx;split at h5
    ·rename_i x2
     simp only[ca]at h5;subst h5;obtain⟨w,h3,R⟩:=h.get h1;have hy:=h.getInt h2;have Y:=eN h1 h3;simp only[AV.fit,DV.fit]at R;obtain⟨_,rfl,g',ys,rfl,u,hg⟩:=R;obtain⟨C,h6,h7⟩:=DV.qb2 u h4;have x1:C.cells.length=sz:=by rw[DV.qbG h7];exact x2.1
     have b1:=DV.qbe h7;have S:(AV.ep e.cells).fit (.ep C.cells):=by simp only[AV.fit];exact⟨_,rfl,b1⟩
     have P:DV.owns e.cells C.cells=e.own C:=DV.qdJ h7;refine eo (sv:=sv) (s:=sv) (v:= .ep C.cells) (by simp only[b8,bo,h3,hy,ay a3,h6,bO,ay (And.intro x1 x2.2),b9]) rfl ?_;have hk:k.toNat<xs.length:=(cw.1 h4).1;have H:(e.own C).Sublist (DV.owns xs ys):=DV.qb7 h4 h6;simp only[AV.own,DV.own]at Y;cases hn:T.contains n with
     |false=>simp only[bg,if_false];refine h.put0 dst S ?_ (b7 _) _;rw[ss,h.nl n hn]at Y;have:DV.owns xs ys=[]:=(List.append_eq_nil_iff.1 Y.symm).2;rw[this]at H;simp only[AV.own];rw[P];exact tw.1 H
     |true=>
      simp only[if_true];rw[ss]at Y;have I:ys.set k.toNat C=ys:=by
       apply oW;intro j
       by_cases hj:k.toNat=j
       ·subst hj;rw[j7,h6];simp
       ·rw[jq hj]
      have Z:=C5 u (i:=k.toNat) (DV.qde _ _ h7);have M:=qJ u hk e.clr C;have x3:=qJ u hk e C;have J:xs.set k.toNat e=xs:=by
       apply oW;intro j
       by_cases hj:k.toNat=j
       ·subst hj;rw[j7,h4];simp
       ·rw[jq hj]
      rw[I]at Z M;rw[I,J]at x3;rw[DV.qbN,cS]at M;have a1:bp ((n,AV.d (.sl g (xs.set k.toNat e.clr)))::sx.r) sv.r n=(if g=U/\xs.length≠0 then g'.ids else [])++(DV.owns (xs.take k.toNat) (ys.take k.toNat)++DV.owns (xs.drop (k.toNat+1)) (ys.drop (k.toNat+1))):=by have a2:lk sv.r n=some (.d (.sl g' ys)):=h3;unfold bp;rw[a2];simp only[lk,if_true,AV.own,DV.own,rB];rw[M]
      have K:∀t,t≠n->bp ((n,AV.d (.sl g (xs.set k.toNat e.clr)))::sx.r) sv.r t=bp sx.r sv.r t:=fun t m=>by unfold bp;simp only[lk];rw[aC m]
      have N:bp sx.r sv.r n=(if g=U/\xs.length≠0 then g'.ids else [])++(DV.owns (xs.take k.toNat) (ys.take k.toNat)++(e.own C++DV.owns (xs.drop (k.toNat+1)) (ys.drop (k.toNat+1)))):=by rw[Y,x3,bX]
      have Q:(bp ((n,AV.d (.sl g (xs.set k.toNat e.clr)))::sx.r) sv.r n).Sublist (bp sx.r sv.r n):=by rw[a1,N];exact jg (ct _) (jg (ct _) (j6 _ _))
      have hR:Rel A0 T F p (sv.c+i) ⟨(n,.d (.sl g (xs.set k.toNat e.clr)))::sx.r,sx.B⟩ sv:=by
       refine⟨fun t y hy=> ?_,h.boxes,h.held.shrink (fun ℓ=> ?_) (fun a D _=>D) (fun _ R=>R),fun t m=> ?_,fun t m=> ?_,h.am⟩
       ·simp only[lk]at hy
        split at hy
        ·rename_i he;subst he
         simp at hy;subst hy
         exact⟨_,h3,by simp only[AV.fit,DV.fit];exact⟨_,rfl,g',ys,rfl,Z,by rw[rB];exact hg⟩⟩
        ·exact h.regs t y hy
       ·cases ℓ with
        |reg t=>
         simp only[aU]
         by_cases m:t=n
         ·subst m;exact Q
         ·rw[K t m];exact ct _
        |box j=>exact ct _
       ·have:t≠n:=by rintro rfl;rw[hn]at m;simp at m
        rw[K t this];exact h.nl t m
       ·simp only[lk]at m
        split at m
        ·simp at m
        ·exact h.no t m
      have G:=h.held.nodup (.reg n);simp only[aU]at G;rw[N]at G;rw[cJ]at G;obtain⟨m1,m2,m3⟩:=G;rw[cJ]at m2;obtain⟨p1,p2,p3⟩:=m2;rw[cJ]at p2;refine hR.put dst S (b7 _) (fun _=>⟨?_,fun a D=> ?_⟩) (fun a D _=>D) (fun _ hi=> .inl hi) _
      ·simp only[AV.own];rw[P];exact p2.1
      ·simp only[AV.own]at D
       rw[P]at D;have O:a∈aU sx.r sx.B sv.r sv.B (.reg n):=by simp only[aU];rw[N];simp[D]
       obtain⟨q1,q2,q3⟩:=h.held.opn _ a O;refine⟨q1,q2,fun R=>q3 (R.le (b7 _)),fun ℓ _ q=> ?_⟩;cases ℓ with
       |reg t=>
        simp only[aU]at q
        by_cases m:t=n
        ·subst m
         rw[a1]at q;rcases bw.1 q with q|q
         ·exact m3 a q a (by simp[D]) rfl
         ·rcases bw.1 q with q|q
          ·exact p3 a q a (by simp[D]) rfl
          ·exact p2.2.2 a D a q rfl
        ·rw[K t m]at q
         have:=h.held.apart (.reg n) (.reg t) a O q;simp at this;exact m this.symm
       |box j=>have:=h.held.apart (.reg n) (.box j) a O q;simp at this
    ·simp at h5
   ·simp at hx
  ·simp at hx
 ·exact gen hx
end
theorem HX(agg:Bool)(sz:Nat):∀(n:Nat) (cs ds xs:aw),DV.fits cs ds->chunks agg sz n cs=some xs->∃ys,chunks agg sz n ds=some ys/\DV.fits xs ys/\(∀e:DV,e∈ys->e.cells.length=sz)/\(DV.owns xs ys).Sublist (DV.owns cs ds)/\xs.length=n
 |0,cs,ds,xs,w,h=>by simp[chunks]at h;subst h;exact⟨[],rfl,by simp[DV.fits],by simp,by simp[DV.owns],rfl⟩
 |n+1,cs,ds,xs,w,h=>by
  simp only[chunks]at h;obtain⟨v,m,H⟩:=aL.1 h;split at H
  ·rename_i hc
   obtain⟨G,M,rfl⟩:=aN.1 H;obtain⟨u,q,r⟩:=Ms w m;obtain⟨ys,I,K,O,J,D⟩:=HX agg sz n _ _ G (DV.qbw w sz) M;refine⟨u::ys,?_,by simp only[DV.fits];exact⟨_,_,rfl,r,K⟩,?_,?_,by simp[D]⟩
   ·simp only[chunks,q,bO]
    rw[ay ⟨by rw[DV.qbG r];exact hc.1,by rw[DV.qdd (DV.qbe r)];exact hc.2⟩,I];rfl
   ·intro e C
    rcases cE.1 C with rfl|C
    ·rw[DV.qbG r];exact hc.1
    ·exact O e C
   ·simp only[DV.owns]
    rw[DV.qb1 (DV.qao w) sz];refine jg ?_ J;unfold cut at m q;cases agg with
    |true=>
     simp only[if_true]at m q;split at m<;>simp at m
     split at q<;>simp at q
     subst m;subst q
     simp only[DV.own];exact ct _
    |false=>
     simp only[bg,if_false]at m q;rcases Nat.eq_zero_or_pos sz with N|g
     ·have:v.cells=[]:=gS.1 (by rw[hc.1,N])
      rw[<-DV.qdJ r,this];simp[DV.owns]
     ·exact DV.qb7 (i:=0) (by rw[pX];simp[g,m]) (by rw[pX];simp[g,q])
  ·simp at H
def BF:az->az->Prop
 | [],ys=>ys=[]
 |b::bs,ys=>∃cs ds vs,b=some cs/\ys=some ds::vs/\AV.fits cs ds/\AV.owns cs ds=[]/\BF bs vs
theorem BF.append:∀{a c b d:az},BF a c->BF b d->BF (a++b) (c++d)
 | [],c,b,d,h,h'=>by simp only[BF]at h;subst h;exact h'
 |x::xs,c,b,d,h,h'=>by simp only[BF]at h;obtain⟨cs,ds,vs,rfl,rfl,e,g,m⟩:=h;simp only[c9,BF];exact⟨_,_,_,rfl,rfl,e,g,BF.append m h'⟩
theorem BF.len:∀{a c:az},BF a c->a.length=c.length
 | [],c,h=>by simp only[BF]at h;subst h;rfl
 |x::xs,c,h=>by simp only[BF]at h;obtain⟨cs,ds,vs,rfl,rfl,_,_,e⟩:=h;simp[e.len]
theorem BF.get:∀{a c:az},BF a c->∀i:Nat,i<a.length->∃cs ds,a[i]?=some (some cs)/\c[i]?=some (some ds)/\AV.fits cs ds/\AV.owns cs ds=[]
 | [],c,h,i,hi=>by simp at hi
 |x::xs,c,h,i,hi=>by
  simp only[BF]at h;obtain⟨cs,ds,vs,rfl,rfl,e,g,m⟩:=h;cases i with
  |zero=>exact⟨cs,ds,rfl,rfl,e,g⟩
  |succ i=>simpa using m.get i (by simpa using hi)
theorem BF.one(e:AV.fits cs ds)(g:AV.owns cs ds=[]):BF [some cs] [some ds]:=by simp only[BF];exact⟨_,_,_,rfl,rfl,e,g,rfl⟩
theorem qJu{x v:DV}(h:x.fit v):xt v=xt x:=by
 cases x<;>simp only[DV.fit]at h
 case agg cs=>obtain⟨ds,rfl,e⟩:=h;rfl
 case sl g xs=>obtain⟨g',ys,rfl,e,m⟩:=h;rfl
 case tup cs=>obtain⟨ds,rfl,e⟩:=h;rfl
 all_goals subst h;rfl
mutual
theorem Xz:∀(x v:DV),x.fit v->x.allU=true->∃l,v.names=some l/\l.Perm (x.own v)
 | .int k n,v,h,_=>by simp only[DV.fit]at h;subst h;exact⟨[],rfl,by simp[DV.own]⟩
 | .bool k,v,h,_=>by simp only[DV.fit]at h;subst h;exact⟨[],rfl,by simp[DV.own]⟩
 | .str k,v,h,_=>by simp only[DV.fit]at h;subst h;exact⟨[],rfl,by simp[DV.own]⟩
 | .tup vs,v,h,e=>by simp[DV.allU]at e
 | .agg cs,v,h,e=>by simp only[DV.fit]at h;obtain⟨ds,rfl,m⟩:=h;simp only[DV.allU]at e;simp only[DV.names,DV.own];exact DN cs ds m e
 | .sl g [],v,h,_=>by simp only[DV.fit,DV.fits]at h;obtain⟨g',ys,rfl,rfl,_⟩:=h;exact⟨[],by cases g'<;>rfl,by simp[DV.own,DV.owns]⟩
 | .sl g (x::xs),v,h,e=>by
  simp only[DV.fit]at h;obtain⟨g',ys,rfl,m,D⟩:=h;simp only[DV.allU,cd,cB]at e;obtain⟨rfl,e⟩:=e;obtain⟨l,u,w⟩:=DN (x::xs) ys m e;rcases D with r|⟨_,r⟩
  ·exact absurd r (by decide)
  rcases r with⟨q,_⟩|⟨q,a,sz,rfl,_⟩
  ·simp at q
  ·simp only[DV.fits]at m
   obtain⟨y,C,rfl,_,_⟩:=m;refine⟨l++[a],by simp only[DV.names,u,b9],?_⟩;simp only[DV.own];rw[ay ⟨trivial,q⟩];exact yt.trans (List.Perm.append (kt _) w)
theorem DN:∀(xs vs:aw),DV.fits xs vs->DV.allUs xs=true->∃l,DV.namess vs=some l/\l.Perm (DV.owns xs vs)
 | [],vs,h,_=>by simp only[DV.fits]at h;subst h;exact⟨[],rfl,by simp[DV.owns]⟩
 |x::xs,vs,h,e=>by simp only[DV.fits]at h;obtain⟨v,vs,rfl,w,C⟩:=h;simp only[DV.allUs,cd]at e;obtain⟨m,u,r⟩:=Xz x v w e.1;obtain⟨g,D,q⟩:=DN xs vs C e.2;exact⟨m++g,by simp only[DV.namess,u,D,bO,b9],by simp only[DV.owns];exact List.Perm.append r q⟩
end
section
variable {A0:Ids} {T:ae} {F:Id->Prop} {p:Id} {sx sx':XS} {sv:St} {X:cf} {V:cj} {lin:Nat->ae} {draw:Bool} {L0 i:Nat}
theorem Rel.app(h:Rel A0 T F p k sx sv){q m:az}(D:BF q m):Rel A0 T F p k ⟨sx.r,sx.B++q⟩ {sv with B:=sv.B++m}:=by
 have G:=D.len;have e:=h.boxes.1;have u:qbv (sx.B++q) (sv.B++m):=by
  refine⟨by simp[e,G],fun i=> ?_⟩
  by_cases hi:i<sx.B.length
  ·rw[d8 hi,d8 (by rw[<-e];exact hi)];exact h.boxes.2 i
  ·rw[dx (by omega),dx (by rw[<-e];omega),e]
   rw[e]at hi
   by_cases g:i-sv.B.length<q.length
   ·obtain⟨cs,ds,w,C,H,I⟩:=D.get _ g
    rw[w,C];exact⟨by simp,fun J hc=>⟨ds,rfl,by simp at hc;subst hc;exact H⟩⟩
   ·rw[jm (by omega)];simp
 refine⟨h.regs,u,h.held.shrink (fun ℓ=> ?_) (fun a K _=>K) (fun _ M=>M),h.nl,h.no,h.am⟩;cases ℓ with
 |reg t=>exact ct _
 |box j=>
  simp only[aU,bD,b5]
  by_cases hi:j<sx.B.length
  ·rw[d8 hi,d8 (by rw[<-e];exact hi)];exact ct _
  ·rw[dx (by omega),dx (by rw[<-e];omega),e]
   rw[e]at hi
   by_cases g:j-sv.B.length<q.length
   ·obtain⟨cs,ds,w,C,H,I⟩:=D.get _ g
    rw[w,C];simp only[I];exact List.nil_sublist _
   ·rw[jm (by omega:q.length<=j-sv.B.length)]
    exact List.nil_sublist _
theorem fx(v u:AV)(t:Nat):bp [(0,v)] [(0,u)] t=if t=0 then v.own u else []:=by unfold bp;by_cases e:t=0<;>simp[lk,e]
end
section
variable {A0:Ids} {T:ae} {F:Id->Prop} {p:Id} {sx sx':XS} {sv:St} {X:cf} {V:cj} {lin:Nat->ae} {draw:Bool} {L0 i:Nat}
end
variable{live:ae}{na:Nat}
section
variable {A0:Ids} {T:ae} {F:Id->Prop} {p:Id} {sx sx':XS} {sv:St} {X:cf} {V:cj} {lin:Nat->ae} {draw:Bool} {L0 i:Nat}
theorem ZG(a1:jj X V lin){dst:bi}{iso:Bool}{f:VX}{args:cg}(h:Rel A0 T F p (sv.c+i) sx sv)(hx:be X lin T draw L0 ⟨dst,.call iso f args,gd,af⟩ sx=some sx'):eB A0 T F p V draw L0 i ⟨dst,.call iso f args,gd,af⟩ sv sx':=by
 simp only[be]at hx;split at hx
 ·rename_i k caps vs h1 h2
  obtain⟨fv,h3,h4⟩:=h.get h1;simp only[AV.fit]at h4;obtain⟨w,rfl,c1,hco⟩:=h4;obtain⟨q,h5,Q,hvl,hvo⟩:=M3 h h2;cases iso with
  |true=>
   simp only[if_true]at hx;split at hx
   ·rename_i ds hds
    split at hx
    ·rename_i v B D
     simp at hx;subst hx
     simp only[AV.fits]at c1;subst c1
     have G:=Kj (LP:=[]) Q 0;have hre:∀j,bp (bn 0 (dq [] 0 vs)) (bn 0 q) j=[]:=by
      intro j;rw[r8,Ap];cases vs[j]? with
      |none=>rfl
      |some a=>cases q[j]? with
       |none=>rfl
       |some b=>simp[AV.qbN]
     have Y:∀ℓ,aU (bn 0 (dq [] 0 vs)) [] (bn 0 q) [] ℓ=[]:=by
      intro ℓ;cases ℓ with
      |reg t=>exact hre t
      |box j=>simp[aU,bD,b5]
     obtain⟨u,Z,A1,hV,x1,_,K,x3⟩:=a1 k _ _ _ _ D ((sv.c+i)::p) q [] Ids.none (fun _=>False) G ⟨rfl,by simp⟩
      ⟨fun ℓ=>by rw[Y];simp,fun ℓ ℓ' a e=>by rw[Y]at e;simp at e,fun ℓ a e=>by rw[Y]at e;simp at e,fun a e=>by simp at e⟩ (fun j _=>hre j) (fun a e=>by simp[Ids.none]at e)
     simp only[AV.fit]at x1;obtain⟨y,rfl,hfy⟩:=x1;obtain⟨es,hes,_,_⟩:=p9 hds Q;have hown:∀a,a∈(AV.d v).own (.d y)->A1 a=true/\Fut ((sv.c+i)::p) 0 a:=by
      intro a e;have g:a∈aU [(0,AV.d v)] B [(0,.d y)] Z (.reg 0):=by simp only[aU,fx];simpa using e
      refine⟨(K.opn _ a g).1,?_⟩;rcases x3 a (K.opn _ a g).1 with C|C
      ·simp[Ids.none]at C
      ·exact C
     refine eo (sv:=sv) (s:={sv with A:=Ids.or A1 sv.A}) (v:= .d y) (by simp only[b8,h3,h5,if_true,hes,hV]) rfl ?_;refine h.put dst (by simp only[AV.fit];exact⟨_,rfl,hfy⟩) (b7 _) (fun _=>⟨?_,fun a e=> ?_⟩) (fun a e _=>by simp[Ids.or,e]) (fun a e=>by
      simp only[Ids.or,jr]at e;rcases e with e|e
      ·rcases x3 a e with C|C
       ·simp[Ids.none]at C
       ·exact .inr ⟨C.sub.le (c8 _),C.qse (nL _)⟩
      ·exact .inl e) _
     ·have:=K.nodup (.reg 0)
      simp only[aU,fx]at this;simpa using this
     ·obtain⟨J,I⟩:=hown a e
      exact⟨by simp[Ids.or,J],fun O=>(h.held.fr a O).2 I.sub,I.qse (nL _),fun ℓ _ hm=>(h.held.opn ℓ a hm).2.2 I.sub⟩
    ·simp at hx
   ·simp at hx
  |false=>
   simp only[bg,if_false]at hx;split at hx
   ·rename_i a2
    split at hx
    ·rename_i v B D
     simp at hx;subst hx
     have G:=AV.qa6 (Kj (LP:=lin k) Q 0) c1;have N:=h.drops (dp (lin k) 0 args);have R:(dq (lin k) 0 vs).length=q.length:=by rw[Io];exact AV.qao Q
     have S:∀j,bp (bn 0 (dq (lin k) 0 vs++caps)) (bn 0 (q++w)) j=[]\/∃x,args[j]?=some x/\(lin k).contains j=true/\bp (bn 0 (dq (lin k) 0 vs++caps)) (bn 0 (q++w)) j=cA sx.r sv.r x:=by
      intro j;rw[r8]
      by_cases hj:j<q.length
      ·rw[d8 (by rw[R];exact hj),d8 hj,Ap]
       have b2:j<vs.length:=by rw[AV.qao Q];exact hj
       have hj3:j<args.length:=by rw[<-hvl];exact b2
       simp only[dE];rw[fp b2,fp hj];simp only[b9];cases hc:(lin k).contains j with
       |false=>left;simp only[bg,if_false];exact AV.qbN _ _
       |true=>right;refine⟨args[j],by simp[hj3],rfl,?_⟩;simp only[if_true];exact hvo j _ _ _ (by simp[b2]) (by simp[hj]) (by simp[hj3])
      ·left
       rw[dx (by rw[R];omega),dx (by omega),R];split
       ·rename_i a b e hb
        have:=AV.qb7 e hb;rw[hco]at this;exact tw.1 this
       ·rfl
     have M:∀j a,a∈bp (bn 0 (dq (lin k) 0 vs++caps)) (bn 0 (q++w)) j->∃x,args[j]?=some x/\(lin k).contains j=true/\x∈dp (lin k) 0 args/\a∈cA sx.r sv.r x:=by
      intro j a e;rcases S j with h0|⟨x,C,h7,h8⟩
      ·rw[h0]at e;simp at e
      ·exact⟨x,C,h7,GT _ args 0 j x C (by simpa using h7),by rw[<-h8];exact e⟩
     have m:∀t a,a∈bp (du T sx.r (dp (lin k) 0 args)) sv.r t->a∈bp sx.r sv.r t:=by
      intro t a e;rw[mc]at e;split at e
      ·simp at e
      ·exact e
     have a3:Held (fun a=>F a\/∃t,a∈bp (du T sx.r (dp (lin k) 0 args)) sv.r t) (Fut ((sv.c+i)::p) 0) sv.A (aU (bn 0 (dq (lin k) 0 vs++caps)) sx.B (bn 0 (q++w)) sv.B):=by
      refine⟨fun ℓ=> ?_,fun ℓ ℓ' a e g=> ?_,fun ℓ a e=> ?_,fun a e=> ?_⟩
      ·cases ℓ with
       |reg j=>
        simp only[aU];rcases S j with h0|⟨x,_,_,h8⟩
        ·rw[h0];simp
        ·rw[h8];exact h.qbn x
       |box j=>exact h.held.nodup (.box j)
      ·cases ℓ with
       |reg j=>
        obtain⟨x,g1,g2,g3,g4⟩:=M j a e;cases ℓ' with
        |reg P=>
         obtain⟨x',g1',b1,g3',x2⟩:=M P a g;rcases Nat.lt_trichotomy j P with hlt|heq|hgt
         ·exact absurd x2 (h.qf9 (Ev args 0 j P x x' a2 g1 g1' (by simpa using g2) (by simpa using b1) hlt) g4)
         ·rw[heq]
         ·exact absurd g4 (h.qf9 (Ev args 0 P j x' x a2 g1' g1 (by simpa using b1) (by simpa using g2) hgt) x2)
        |box P=>obtain⟨n,rfl,_,g5⟩:=h.qeL g4;have:=h.held.apart (.reg n) (.box P) a g5 g;simp at this
       |box j=>
        cases ℓ' with
        |reg P=>obtain⟨x',g1',b1,g3',x2⟩:=M P a g;obtain⟨n,rfl,_,g5⟩:=h.qeL x2;have:=h.held.apart (.reg n) (.box j) a g5 e;simp at this
        |box P=>exact h.held.apart (.box j) (.box P) a e g
      ·cases ℓ with
       |reg j=>
        obtain⟨x,g1,g2,g3,g4⟩:=M j a e;obtain⟨J,I,q3⟩:=h.qdI g4;refine⟨J,?_,fun H=>q3 H.sub⟩
        rintro(O|⟨t,ht⟩)
        ·exact I O
        ·exact h.qec g3 g4 (.reg t) ht
       |box j=>
        obtain⟨J,I,q3⟩:=h.held.opn (.box j) a e;refine⟨J,?_,fun H=>q3 H.sub⟩
        rintro(O|⟨t,ht⟩)
        ·exact I O
        ·have:=h.held.apart (.box j) (.reg t) a e (m t a ht)
         simp at this
      ·rcases e with O|⟨t,ht⟩
       ·exact⟨(h.held.fr a O).1,fun H=>(h.held.fr a O).2 H.sub⟩
       ·obtain⟨J,I,q3⟩:=h.held.opn (.reg t) a (m t a ht)
        exact⟨J,fun H=>q3 H.sub⟩
     obtain⟨u,Z,A1,hV,x1,hbf,K,x3⟩:=a1 k _ _ _ _ D ((sv.c+i)::p) (q++w) sv.B sv.A _ G h.boxes a3 (fun j hj=>by
      rcases S j with h0|⟨x,_,h7,_⟩
      ·exact h0
      ·rw[hj]at h7;simp at h7) (fun a e H=>(h.am a e).1 H.sub)
     have c2:∀a,A1 a=true->¬Fut p (sv.c+i+1) a/\(A0 a=true\/Fut p 0 a):=by
      intro a e;rcases x3 a e with C|C
      ·exact⟨fun H=>(h.am a C).1 (H.le (b7 _)),(h.am a C).2⟩
      ·exact⟨C.qse (nL _),.inr (C.sub.le (c8 _))⟩
     have hbase:Rel A0 T F p (sv.c+i+1) ⟨du T sx.r (dp (lin k) 0 args),B⟩ {sv with A:=A1,B:=Z}:=by
      refine⟨N.regs,hbf,⟨fun ℓ=> ?_,fun ℓ ℓ' a e g=> ?_,fun ℓ a e=> ?_,fun a e=>⟨(K.fr a (.inl e)).1,fun H=>(h.held.fr a e).2 (H.le (b7 _))⟩⟩,N.nl,N.no,c2⟩
      ·cases ℓ with
       |reg t=>exact N.held.nodup (.reg t)
       |box j=>exact K.nodup (.box j)
      ·cases ℓ with
       |reg t=>cases ℓ' with
        |reg t'=>exact N.held.apart (.reg t) (.reg t') a e g
        |box j=>exact absurd (.inr ⟨t,e⟩) (K.opn (.box j) a g).2.1
       |box j=>cases ℓ' with
        |reg t=>exact absurd (.inr ⟨t,g⟩) (K.opn (.box j) a e).2.1
        |box P=>exact K.apart (.box j) (.box P) a e g
      ·cases ℓ with
       |reg t=>obtain⟨J,I,q3⟩:=N.held.opn (.reg t) a e;exact⟨(K.fr a (.inr ⟨t,e⟩)).1,I,fun H=>q3 (H.le (b7 _))⟩
       |box j=>obtain⟨J,I,q3⟩:=K.opn (.box j) a e;exact⟨J,fun O=>I (.inl O),(c2 a J).1⟩
     refine eo (sv:=sv) (s:={sv with A:=A1,B:=Z}) (v:=u) (by simp only[b8,h3,h5,bg,if_false,hV]) rfl ?_;refine hbase.put dst x1 (bI _) (fun _=>⟨?_,fun a e=> ?_⟩) (fun a e _=>e) (fun _ hi=> .inl hi) _
     ·have:=K.nodup (.reg 0)
      simp only[aU,fx]at this;simpa using this
     ·have g:a∈aU [(0,v)] B [(0,u)] Z (.reg 0):=by simp only[aU,fx];simpa using e
      obtain⟨J,I,q3⟩:=K.opn (.reg 0) a g;refine⟨J,fun O=>I (.inl O),(c2 a J).1,fun ℓ _ hm=> ?_⟩;cases ℓ with
      |reg t=>exact I (.inr ⟨t,hm⟩)
      |box j=>have:=K.apart (.reg 0) (.box j) a g hm;simp at this
    ·simp at hx
   ·simp at hx
 ·simp at hx
theorem Qb(e:jj X V lin)(g:o.linOK T=true)(h:Rel A0 T F p (sv.c+i) sx sv)(hx:be X lin T draw L0 o sx=some sx'):eB A0 T F p V draw L0 i o sv sx':=by
 obtain⟨dst,op,gd,af⟩:=o;cases op with
 |move x=>exact qW8 h hx
 |pick c a b=>exact qW7 h hx
 |alloc k z=>exact TL h hx
 |box k x=>exact q34 h hx
 |build z ps=>exact Yw h g hx
 |buildSlice sz z n ps=>exact qsy h g hx
 |makeSlice k sz b z x=>exact qvA h hx
 |load ag sz x=>exact ZC h hx
 |store m sz a x=>exact LZ h hx
 |storeN sz a x av=>exact Sd h hx
 |append sz b x y=>exact qMq h g hx
 |call iso f args=>exact ZG e h hx
 |extract x k=>exact qEK h hx
 |eqNil neg x=>simp[be]at hx
 |indexAddr sz arr x y=>exact Qk h hx
 |_=>exact KJ (by rfl) h hx (by rfl)
theorem JM(h:Rel A0 T F p k sx sv){g:qs}{b:Bool}(e:gk sx.r g=some b):gk sv.r g=some b:=by
 cases g with
 |none=>exact e
 |some q=>
  obtain⟨t,C⟩:=q;simp only[gk]at e⊢
  split at e
  ·rename_i b' u
   obtain⟨v,w,m⟩:=h.regs t _ u;simp only[AV.fit,DV.fit]at m;obtain⟨_,rfl,rfl⟩:=m;rw[w];exact e
  ·rename_i u
   obtain⟨v,w,m⟩:=h.regs t _ u;simp only[AV.fit]at m;subst m;rw[w];exact e
  ·simp at e
theorem qN(e:jj X V lin):∀{os:ak} {i:Nat} {sx:XS} {sv:St},os.all (VOper.linOK T)=true->Rel A0 T F p (sv.c+i) sx sv->a7 X lin T draw L0 os sx=some sx'->
 ∃g,cW V p draw L0 i os sv=some g/\Rel A0 T F p (sv.c+i+os.length) sx' g/\g.c=sv.c
 | [],i,sx,sv,_,h,hx=>by simp[a7]at hx;subst hx;exact⟨sv,rfl,h,rfl⟩
 |o::os,i,sx,sv,r,h,hx=>by
  simp only[fX,cd]at r;simp only[a7]at hx;split at hx
  ·rename_i w
   obtain⟨s1,G,H⟩:=aL.1 hx;obtain⟨v1,I,C,m⟩:=Qb e r.1 h G;obtain⟨v2,u,q,D⟩:=qN e (i:=i+1) r.2 (by rw[m];exact C) H;refine⟨v2,by simp only[cW,JM h w,I,bO];exact u,?_,by rw[D,m]⟩;rw[m]at q;rw[c7,show sv.c+i+(os.length+1)=sv.c+(i+1)+os.length by omega];exact q
  ·rename_i w
   have C:Rel A0 T F p (sv.c+i+1) (a9 T sx o.dst .und) (sv.put o.dst .und):=by have:=h.put0 o.dst (a:= .und) (v:= .und) (by simp[AV.fit]) (by simp[AV.own]) (b7 _) sv.c;rw[DR]at this;exact this
   have m:(sv.put o.dst .und).c=sv.c:=y7 _ _;obtain⟨v2,u,q,D⟩:=qN e (i:=i+1) r.2 (by rw[m];exact C) hx;refine⟨v2,by simp only[cW,JM h w];exact u,?_,by rw[D,m]⟩;rw[m]at q;rw[c7,show sv.c+i+(os.length+1)=sv.c+(i+1)+os.length by omega];exact q
  ·simp at hx
theorem tN(r:aI):∀(live:ae) (t:Nat),lk (keep r live) t=if t∈live then lk r t else none
 | [],t=>by simp[keep,lk]
 |a::l,t=>by
  simp only[keep];cases ha:lk r a with
  |none=>
   simp only;rw[tN r l]
   by_cases e:t=a
   ·subst e;simp[ha]
   ·simp[e]
  |some v=>
   simp only[lk]
   by_cases e:t=a
   ·subst e;simp[ha]
   ·simp only[aC e];rw[tN r l];simp[e]
theorem IK(rx rv:aI)(live:ae)(t:Nat):bp (keep rx live) (keep rv live) t=if t∈live then bp rx rv t else []:=by
 unfold bp;rw[tN,tN]
 by_cases e:t∈live
 ·simp only[ay e]
 ·simp only[aC e]
theorem Rel.keep(h:Rel A0 T F p k sx sv)(live:ae):Rel A0 T F p k ⟨keep sx.r live,sx.B⟩ {sv with r:=Go.Proofs.YtpcoohnjllclnaaGreat.VS.keep sv.r live}:=by
 refine⟨fun t x hx=> ?_,h.boxes,h.held.shrink (fun ℓ=> ?_) (fun a q _=>q) (fun _ m=>m),fun t e=> ?_,fun t e=> ?_,h.am⟩
 ·simp only[tN]at hx⊢
  split at hx
  ·rename_i g;rw[ay g];exact h.regs t x hx
  ·simp at hx
 ·cases ℓ with
  |reg t=>simp only[aU,IK];split<;>simp
  |box j=>exact ct _
 ·simp only[IK];split
  ·exact h.nl t e
  ·rfl
 ·simp only[tN]at e⊢
  split at e
  ·rename_i g;rw[ay g];exact h.no t e
  ·rename_i g;rw[aC g]
theorem Rel.more(h:Rel A0 T F p k sx sv)(n:Nat):Rel A0 T F p k ⟨sx.r,sx.B++List.replicate n none⟩ {sv with B:=sv.B++List.replicate n none}:=by
 refine⟨h.regs,h.boxes.more n,h.held.shrink (fun ℓ=> ?_) (fun a e _=>e) (fun _ g=>g),h.nl,h.no,h.am⟩;cases ℓ with
 |reg t=>exact ct _
 |box j=>simp only[aU,bD,X4];exact ct _
theorem Rel.cut(h:Rel A0 T F p k sx sv)(n:Nat):Rel A0 T F p k ⟨sx.r,sx.B.take n⟩ {sv with B:=sv.B.take n}:=by
 refine⟨h.regs,h.boxes.take n,h.held.shrink (fun ℓ=> ?_) (fun a g _=>g) (fun _ m=>m),h.nl,h.no,h.am⟩;cases ℓ with
 |reg t=>exact ct _
 |box j=>
  simp only[aU,bD,w8]
  by_cases e:j<n
  ·simp[e]
  ·simp[e]
theorem Rel.at{c':Nat}(h:Rel A0 T F p k sx sv)(e:k<=k'):Rel A0 T F p k' sx {sv with c:=c'}:=by have:=h.next e;exact⟨this.regs,this.boxes,this.held,this.nl,this.no,this.am⟩
theorem qBf(g:jj X V lin){draw:Bool}{ops:ak}(G:ops.all (VOper.linOK T)=true)(h:Rel A0 T F p sv.c sx sv)(hx:lD X lin T draw na live ops sx=some sx'):
 ∃e,nn V p draw na live ops sv=some e/\Rel A0 T F p e.c sx' e:=by
 unfold lD at hx;split at hx
 ·simp at hx
 ·rename_i C
  obtain⟨s1,u,rfl⟩:=aN.1 hx;have D:=h.more na;obtain⟨v1,q,m,w⟩:=qN g (i:=0) (sv:={sv with B:=sv.B++List.replicate na none}) G (by simpa using D) u;rw[h.boxes.1]at q;simp only at m w;refine⟨{v1 with r:=keep v1.r live,c:=sv.c+ops.length},by unfold nn;rw[aC C,q];rfl,?_⟩;have:=(m.keep live).at (k':=sv.c+ops.length) (c':=sv.c+ops.length) (by omega);exact this
theorem Hr(h:Rel A0 T F p k sx sv)(m:Nat):∀live:ae,aB m (keep sx.r live)=true->aB m (keep sv.r live)=true
 | [],_=>rfl
 |t::ts,e=>by
  simp only[Go.Proofs.YtpcoohnjllclnaaGreat.VS.keep]at e⊢
  cases ht:lk sx.r t with
  |none=>rw[ht]at e;rw[h.no t ht];exact Hr h m ts e
  |some x=>
   rw[ht]at e;obtain⟨v,g,q⟩:=h.regs t x ht;rw[g];simp only[aB,cd]at e⊢
   exact⟨by rw[AV.ql5 _ _ _ q];exact e.1,Hr h m ts e.2⟩
theorem Xr{g:Nat}(h:Rel A0 T F p sv.c sx sv)(hx:aA g live sx=some sx'):∃e,FI g live sv=some e/\Rel A0 T F p e.c sx' e:=by
 unfold aA at hx;split at hx
 ·rename_i hc
  simp at hx;subst hx
  refine⟨{sv with r:=keep sv.r live,B:=sv.B.take g},?_,(h.keep live).cut g⟩;unfold FI;simp only;rw[ay ⟨Hr h g live hc.1,by rw[<-h.boxes.1];exact hc.2⟩]
 ·simp at hx
theorem qDk{f:XS->dK}{g:St->wG}(r:∀sx sv e sx',Rel A0 T F p sv.c sx sv->f sx=some (e,sx')->∃m,g sv=some (e,m)/\Rel A0 T F p m.c sx' m)(w:Nat)(live:ae):
 ∀n sx sv e sx',Rel A0 T F p sv.c sx sv->fH f w live n sx=some (e,sx')->∃m,pJ g w live n sv=some (e,m)/\Rel A0 T F p m.c sx' m:=by
 intro n
 induction n with
 |zero=>intro sx sv e sx' h hx;simp[fH]at hx
 |succ n K=>
  intro sx sv e sx' h hx;simp only[fH]at hx;obtain⟨s0,D,I⟩:=aL.1 hx;obtain⟨⟨H,s1⟩,J,q⟩:=aL.1 I;obtain⟨N,M,C⟩:=Xr h D;obtain⟨v1,G,u⟩:=r _ _ _ _ C J;simp only[pJ,M,G,bO];cases H with
  |normal=>exact K _ _ _ _ u q
  |exit id=>simp at q;obtain⟨rfl,rfl⟩:=q;exact⟨v1,rfl,u⟩
  |ret=>simp at q;obtain⟨rfl,rfl⟩:=q;exact⟨v1,rfl,u⟩
theorem Rel.getB(h:Rel A0 T F p k sx sv){b:Bool}(hx:bm sx.r x=some (au b)):x.get sv.r=some (au b):=by obtain⟨v,g,e⟩:=h.get hx;simp only[AV.fit,DV.fit]at e;obtain⟨y,rfl,rfl⟩:=e;exact g
end
theorem G1:∀{xs vs:aw},DV.fits xs vs->DV.fits (xs.flatMap DV.cells) (vs.flatMap DV.cells)/\DV.owns (xs.flatMap DV.cells) (vs.flatMap DV.cells)=DV.owns xs vs
 | [],vs,h=>by simp only[DV.fits]at h;subst h;simp[DV.fits,DV.owns]
 |x::xs,vs,h=>by simp only[DV.fits]at h;obtain⟨v,vs,rfl,e,m⟩:=h;obtain⟨q,g⟩:=G1 m;simp only[mC];exact⟨DV.qa6 (DV.qbe e) q,by rw[DV.qa0 (DV.qao (DV.qbe e)),DV.qdJ e,g];simp only[DV.owns]⟩
theorem qOj{c c' r e:DV}(m:c.fit c')(q:r.fit e):c'.like e=c.like r:=by
 have sh:∀{x v:DV},x.fit v->(∃g g' xs ys,x= .sl g xs/\v= .sl g' ys)\/(∃xs ys,x= .agg xs/\v= .agg ys)\/(∃xs ys,x= .tup xs/\v= .tup ys)\/v=x:=by
  intro x v h;cases x<;>simp only[DV.fit]at h
  case sl g xs=>obtain⟨g',ys,rfl,_⟩:=h;exact .inl ⟨_,_,_,_,rfl,rfl⟩
  case agg xs=>obtain⟨ys,rfl,_⟩:=h;exact .inr (.inl ⟨_,_,rfl,rfl⟩)
  case tup xs=>obtain⟨ys,rfl,_⟩:=h;exact .inr (.inr (.inl ⟨_,_,rfl,rfl⟩))
  all_goals exact .inr (.inr (.inr h))
 rcases sh m with⟨_,_,_,_,rfl,rfl⟩|⟨_,_,rfl,rfl⟩|⟨_,_,rfl,rfl⟩|rfl<;>rcases sh q with⟨_,_,_,_,rfl,rfl⟩|⟨_,_,rfl,rfl⟩|⟨_,_,rfl,rfl⟩|rfl<;>
  first|rfl|(cases e<;>rfl)|(cases c'<;>rfl)|(cases c'<;>cases e<;>rfl)
variable{rs:aw}
theorem Yp{rv:aw}(G:DV.fits rs rv)(h:DV.fits xs vs)(I:xs.any (fun c=>rs.all fun r=> !c.like r)=true):vs.any (fun c=>rv.all fun r=> !c.like r)=true:=by
 obtain⟨c,hc,q⟩:=List.any_eq_true.1 I;obtain⟨i,hi⟩:=jC.1 hc;obtain⟨c',w,H⟩:=DV.qb2 h hi;refine List.any_eq_true.2 ⟨c',pm w,cm.2 fun K m=> ?_⟩;obtain⟨k,D⟩:=jC.1 m;have u:k<rs.length:=by rw[DV.qao G];exact(cw.1 D).1
 have g:rs[k]?=some rs[k]:=by simp[u]
 obtain⟨J,e,C⟩:=DV.qb2 G g;rw[D]at e;simp only[ca]at e;subst e
 rw[qOj H C];exact cm.1 q _ (pm g)
mutual
theorem LG{A:Ids}{a:Id}{rs rv:aw}(r:DV.fits rs rv):∀(x v:DV),x.fit v->x.xrest rs=true->(∀b,b∈x.own v->A b=true/\b≠a)->v.rest A a rv=true
 | .int k n,v,h,_,_=>by simp only[DV.fit]at h;subst h;simp only[DV.rest]
 | .bool b,v,h,_,_=>by simp only[DV.fit]at h;subst h;simp only[DV.rest]
 | .str s,v,h,_,_=>by simp only[DV.fit]at h;subst h;simp only[DV.rest]
 | .agg cs,v,h,hx,q=>by simp only[DV.fit]at h;obtain⟨ds,rfl,e⟩:=h;simp only[DV.xrest]at hx;simp only[DV.rest];exact Dx r cs ds e hx (by simpa only[DV.own]using q)
 | .tup cs,v,h,hx,q=>by simp only[DV.fit]at h;obtain⟨ds,rfl,e⟩:=h;simp only[DV.xrest]at hx;simp only[DV.rest];exact Dx r cs ds e hx (by simpa only[DV.own]using q)
 | .sl g xs,v,h,hx,q=>by
  simp only[DV.fit]at h;obtain⟨g',ys,rfl,e,C⟩:=h;simp only[DV.xrest,cd,jr,cB]at hx;obtain⟨m,D⟩:=hx;simp only[DV.own]at q;simp only[DV.rest,cd,jr];refine⟨?_,Dx r xs ys e D fun b H=>q b (qn _ H)⟩;rcases m with(m|m)|m
  ·left;left
   have:xs=[]:=by simpa using m
   subst this;simp only[DV.fits]at e;subst e;rfl
  ·exact .inl (.inr (Yp r (G1 e).1 m))
  ·subst m
   rcases C with w|⟨_,w⟩
   ·exact absurd w (by decide)
   ·rcases w with⟨u,_⟩|⟨u,b,sz,rfl,_⟩
    ·left;left
     have:xs=[]:=gS.1 u;subst this;simp only[DV.fits]at e;subst e;rfl
    ·right
     obtain⟨G,I⟩:=q b (ov _ (by rw[ay ⟨rfl,u⟩];simp[Tag.ids]));simp[G,I]
theorem Dx{A:Ids}{a:Id}{rs rv:aw}(m:DV.fits rs rv):∀(xs vs:aw),DV.fits xs vs->DV.xrests rs xs=true->(∀b,b∈DV.owns xs vs->A b=true/\b≠a)->DV.rests A a rv vs=true
 | [],vs,h,_,_=>by simp only[DV.fits]at h;subst h;simp only[DV.rests]
 |x::xs,vs,h,hx,e=>by simp only[DV.fits]at h;obtain⟨v,vs,rfl,q,r⟩:=h;simp only[DV.xrests,cd]at hx;simp only[DV.owns]at e;simp only[DV.rests,cd];exact⟨LG m x v q hx.1 fun b g=>e b (ov _ g),Dx m xs vs r hx.2 fun b g=>e b (qn _ g)⟩
end
theorem Ky{rv:aw}(g:DV.fits rs rv)(x v:AV)(h:x.fit v)(hx:x.xrest rs=true)(m:∀b,b∈x.own v->A b=true/\b≠a):v.rest A a rv=true:=by
 cases x with
 |d x=>simp only[AV.fit]at h;obtain⟨y,rfl,e⟩:=h;exact LG g x y e hx m
 |ptr i o=>simp only[AV.fit]at h;subst h;rfl
 |nilp=>simp only[AV.fit]at h;subst h;rfl
 |bsl id ag i sz n=>simp only[AV.fit]at h;obtain⟨_,rfl⟩:=h;rfl
 |tsl ag i sz n=>simp only[AV.fit]at h;subst h;rfl
 |und=>simp only[AV.fit]at h;subst h;rfl
 |fn f cap=>
  cases cap with
  |nil=>simp only[AV.fit,AV.fits]at h;obtain⟨_,rfl,rfl,_⟩:=h;rfl
  |cons c r=>simp[AV.xrest]at hx
 |ep cs=>simp[AV.xrest]at hx
 |ag t cs=>simp[AV.xrest]at hx
theorem Pi{rv:aw}(m:DV.fits rs rv):∀(xs vs:aG),AV.fits xs vs->xs.all (AV.xrest rs)=true->(∀b,b∈AV.owns xs vs->A b=true/\b≠a)->vs.all (AV.rest A a rv)=true
 | [],vs,h,_,_=>by simp only[AV.fits]at h;subst h;rfl
 |x::xs,vs,h,hx,e=>by
  simp only[AV.fits]at h;obtain⟨v,vs,rfl,q,r⟩:=h;simp only[fX,cd]at hx⊢
  simp only[AV.owns]at e;exact⟨Ky m x v q hx.1 fun b g=>e b (ov _ g),Pi m xs vs r hx.2 fun b g=>e b (qn _ g)⟩
theorem V1{own:Loc->eU}(h:Held F Fu A own)(φ:Loc->Loc)(e:∀ℓ,(own' ℓ).Sublist (own (φ ℓ)))(hφ:∀ℓ ℓ',own' ℓ≠[]->own' ℓ'≠[]->φ ℓ=φ ℓ'->ℓ=ℓ')
 (w:∀x,A x=true->(F x\/∃ℓ,x∈own' ℓ)->A' x=true):Held F Fu A' own':=by
 refine⟨fun ℓ=>(h.nodup _).sublist (e ℓ),fun ℓ ℓ' a g m=> ?_,fun ℓ a g=> ?_,fun a g=> ?_⟩
 ·exact hφ ℓ ℓ' (fun q=>by rw[q]at g;simp at g) (fun q=>by rw[q]at m;simp at m) (h.apart _ _ a ((e ℓ).subset g) ((e ℓ').subset m))
 ·obtain⟨r,u,C⟩:=h.opn _ a ((e ℓ).subset g)
  exact⟨w a r (.inr ⟨ℓ,g⟩),u,C⟩
 ·obtain⟨r,u⟩:=h.fr a g
  exact⟨w a r (.inl g),u⟩
section
variable {A0:Ids} {T:ae} {F:Id->Prop} {p:Id} {sx sx':XS} {sv:St}
theorem Ic(h:Rel A0 T F p k sx sv){rv:aw}(m:DV.fits rs rv):∀(live:ae),oJ rs (keep sx.r live)=true->(∀t,t∈live->∀b,b∈bp sx.r sv.r t->sv.A b=true/\b≠a)->I1 sv.A a rv (keep sv.r live)=true
 | [],_,_=>rfl
 |t::ts,hx,q=>by
  simp only[Go.Proofs.YtpcoohnjllclnaaGreat.VS.keep]at hx⊢
  cases ht:lk sx.r t with
  |none=>rw[ht]at hx;rw[h.no t ht];exact Ic h m ts hx fun g e=>q g (jn _ e)
  |some x=>
   obtain⟨v,u,C⟩:=h.regs t x ht;rw[ht]at hx;rw[u];simp only[oJ,I1,fX,cd]at hx⊢
   refine⟨Ky m x v C hx.1 fun b w=>q t (by simp) b (by unfold bp;rw[ht,u];exact w),Ic h m ts hx.2 fun g e=>q g (jn _ e)⟩
theorem qv3{B:az}{rv:aw}(w:DV.fits rs rv)(g:qbv B Bv)(hx:mn rs B=true)(D:∀j b,b∈bD B Bv j->A b=true/\b≠a):O8 A a rv Bv=true:=by
 refine cm.2 fun q h=> ?_
 obtain⟨i,hi⟩:=jC.1 h;cases q with
 |none=>rfl
 |some ds=>
  have r:i<B.length:=by rw[g.1];exact(cw.1 hi).1
  have e:B[i]?=some B[i]:=by simp[r]
  cases h:B[i]with
  |none=>rw[h]at e;have:=(g.2 i).1 e;rw[hi]at this;simp at this
  |some cs=>
   rw[h]at e;obtain⟨C,m,G⟩:=(g.2 i).2 cs e;rw[hi]at m;simp only[ca]at m;subst m
   have u:=cm.1 hx _ (pm e);refine Pi w cs ds G u fun b g=>D i b ?_
   unfold bD b5;rw[e,hi];exact g
theorem YU{x v:DV}{g':Tag}(h:(DV.sl U (x::xs)).fit (.sl g' (v::vs))):∃a sz,g'= .own a sz/\x.cells.length=sz/\xt v=xt x/\vs.length=xs.length/\
 (DV.sl U (x::xs)).own (.sl g' (v::vs))=a::DV.owns (x::xs) (v::vs)/\DV.fits (x::xs) (v::vs):=by
 simp only[DV.fit]at h;obtain⟨I,ys,e,m,G⟩:=h;simp only[DV.sl.injEq]at e;obtain⟨rfl,rfl⟩:=e;rcases G with q|⟨_,q⟩
 ·exact absurd q (by decide)
 ·rcases q with⟨g,_⟩|⟨g,a,sz,rfl,D⟩
  ·simp at g
  ·have r:=m
   simp only[DV.fits]at m;obtain⟨w,H,e,u,C⟩:=m;simp only[List.cons.injEq]at e;obtain⟨rfl,rfl⟩:=e;refine⟨a,sz,rfl,by rw[<-DV.qbG u];exact D v (by simp),qJu u,(DV.qao C).symm,?_,r⟩;simp only[DV.own];rw[ay ⟨trivial,g⟩];rfl
end
variable{s1:XS}{f1 f2 f3:ae}{d3 d1 d2:Nat}
section
variable {A0:Ids} {T:ae} {F:Id->Prop} {p:Id} {sx sx':XS} {sv:St} {X:cf} {V:cj} {lin:Nat->ae} {draw:Bool} {L0 i:Nat}
theorem Rel.over(h:Rel A0 T F p k sx sv)(d:Nat){sx1:XS}(ℓ0:Loc)
 (g:∀t x,lk sx1.r t=some x->∃v,lk sv.r t=some v/\x.fit v) (m:qbv sx1.B sv.B)
 (e:∀ℓ,(aU sx1.r sx1.B sv.r sv.B ℓ).Sublist (aU sx.r sx.B sv.r sv.B ℓ)) (D:∀t,lk sx1.r t=none->lk sx.r t=none)
{a:AV}(q:a.fit v) (u:(a.own v).Nodup) (C:∀j,j∈a.own v->j∈aU sx.r sx.B sv.r sv.B ℓ0/\j∉aU sx1.r sx1.B sv.r sv.B ℓ0)(G:k<=k') (c':Nat):
 Rel A0 T F p k' (a9 T sx1 (some d) a) {(sv.put (some d) v)with c:=c'}:=by
 have Q:Rel A0 T F p k sx1 sv:=by refine⟨g,m,h.held.shrink e (fun a J _=>J) (fun _ q=>q),fun t w=> ?_,fun t w=>h.no t (D t w),h.am⟩;have:=e (.reg t);simp only[aU]at this;rw[h.nl t w]at this;exact tw.1 this
 refine Q.put (some d) q G (fun _=>⟨u,fun j P=> ?_⟩) (fun i hi _=>hi) (fun _ hi=> .inl hi) c';obtain⟨I,N⟩:=C j P;obtain⟨O,K,M⟩:=h.held.opn ℓ0 j I;refine⟨O,K,fun q=>M (q.le G),fun ℓ _ H=> ?_⟩;have:=h.held.apart ℓ0 ℓ j I ((e ℓ).subset H);subst this;exact N H
theorem vj(call:cj)(p:Id)(draw:Bool)(L0:Nat):∀(a b:ak) (i:Nat) (s:St),cW call p draw L0 i (a++b) s=(cW call p draw L0 i a s).bind (cW call p draw L0 (i+a.length) b)
 | [],b,i,s=>by simp[cW]
 |o::a,b,i,s=>by
  simp only[c9,cW];split
  ·cases b8 call p draw L0 i o s with
   |none=>rfl
   |some s1=>simp only[bO];rw[vj call p draw L0 a b];rw[c7,Nat.add_assoc,HV 1]
  ·rw[vj call p draw L0 a b];rw[c7,Nat.add_assoc,HV 1]
  ·rfl
theorem XQ(h:DV.fits xs ys)(l b:Nat):DV.fits (fR xs l b) ys:=by
 have e:ys=((ys.take b).take l++(ys.take b).drop l)++ys.drop b:=by rw[dJ,dJ]
 rw[e];unfold fR;exact DV.qa6 (DV.qa6 (DV.qbp (DV.qbp h b) l) (DV.qbF _ _ (DV.qbw (DV.qbp h b) l))) (DV.qbw h b)
theorem O7(l b:Nat):(fR xs l b).length=xs.length:=by unfold fR;simp only[cG,DV.qcD];rw[<-cG,dJ,<-cG,dJ]
theorem LK(h:DV.fits xs ys)(l b:Nat):DV.owns (fR xs l b) ys=DV.owns ((xs.take b).take l) ((ys.take b).take l)++DV.owns (xs.drop b) (ys.drop b):=by
 have e:ys=((ys.take b).take l++(ys.take b).drop l)++ys.drop b:=by rw[dJ,dJ]
 conv=>lhs;rw[e]
 unfold fR;have g:=DV.qbp (DV.qbp h b) l;have m:=DV.qbw (DV.qbp h b) l;rw[DV.qa0 (by simp[DV.qao g,DV.qao m,DV.qcD];omega),DV.qa0 (DV.qao g),DV.qfG,cS]
theorem H0(h:DV.fits xs ys)(l b:Nat):DV.owns xs ys=DV.owns ((xs.take b).take l) ((ys.take b).take l)++(DV.owns ((xs.take b).drop l) ((ys.take b).drop l)++DV.owns (xs.drop b) (ys.drop b)):=by have e:=DV.qao h;rw[DV.qb1 e b,DV.qb1 (a:=xs.take b) (c:=ys.take b) (by simp[e]) l,bX]
def Il(A0:Ids)(T:ae)(F:Id->Prop)(p:Id)(V:cj)(draw:Bool)(L0 i:Nat)(f:FOper)(sv:St)(sx':XS):Prop:=∃e,cW V p draw L0 i (f.pre++f.post) sv=some e/\Rel A0 T F p (sv.c+i+(f.pre++f.post).length) sx' e/\e.c=sv.c
theorem qWc(h:DV.fits xs ys)(hx:xs.all (fun e=>decide (e.cells.length=sz))=true):ys.all (fun e=>decide (e.cells.length=sz))=true:=MH (DV.qbF _ _ h) hx
theorem VC(Q:jj X V lin){a:Nat}{b:VX}{lo hi:nW}(hl:(FOper.sl d1 a d2 b d3 sz lo hi f1 f2 f3).pre.all (VOper.linOK T)=true)(h:Rel A0 T F p (sv.c+i) sx sv)
 (h1:a7 X lin T draw L0 (FOper.sl d1 a d2 b d3 sz lo hi f1 f2 f3).pre sx=some s1) (hx:je T (.sl d1 a d2 b d3 sz lo hi f1 f2 f3) s1=some sx'):Il A0 T F p V draw L0 i (.sl d1 a d2 b d3 sz lo hi f1 f2 f3) sv sx':=by
 obtain⟨sv1,e1,M,c1⟩:=qN Q hl h h1;simp only[je]at hx;split at hx
 ·rename_i g xs h5 h4 k1 k2 k3
  split at hx
  ·rename_i hc
   obtain⟨⟨ha,h3,n1,n2,n3⟩,S⟩:=hc;obtain⟨e,q1,hx⟩:=aL.1 hx;obtain⟨m,q2,hx⟩:=aN.1 hx;subst hx;have K:lk sv1.r d1=lk sv1.r a:=by
    simp only[FOper.pre,cW,gk,b8,bo]at e1;obtain⟨t1,e2,e3⟩:=aL.1 e1;obtain⟨va,e4,rfl⟩:=aN.1 e2;obtain⟨t2,e5,e6⟩:=aL.1 e3;obtain⟨vb,e7,rfl⟩:=aN.1 e5;simp only[ca]at e6;subst e6
    simp only[VX.get]at e4;simp only[St.put,lk,aC n3,aC (Ne.symm n1),aC (Ne.symm n2),if_true];exact e4.symm
   obtain⟨w,Z,kf⟩:=M.regs a _ k1;have N:=kf;simp only[AV.fit,DV.fit]at N;obtain⟨_,rfl,g',ys,rfl,q,hg⟩:=N;have O:=DV.qao q;obtain⟨lv,m1,m2,m3⟩:=sS M.er k2;obtain⟨hv,m4,m5,m6⟩:=sS M.er k3;have z1:hZ ys.length hv=some e:=by rw[<-O,IX m5 m6];exact q1
   have z2:gL e lv=some m:=by rw[Eq m2 m3];exact q2
   have ev:cW V p draw L0 (i+2) [⟨some d3,.slice false sz (.t d1) lo hi,none,f3⟩] sv1=some (sv1.put (some d3) (.d (.sl (if g'= .nil then .nil else .sub) ((ys.take e).drop m)))):=by simp only[cW,gk,b8,bo,VX.get,K,Z,m1,m4];rw[ay (qWc q S),z1];simp only[bO,z2,b9]
   refine⟨_,by rw[vj,e1];exact ev,?_,by rw[y7,c1]⟩;have u:bp s1.r sv1.r a=(if g=U/\xs.length≠0 then g'.ids else [])++DV.owns xs ys:=by unfold bp;rw[k1,Z];simp only[AV.own,DV.own]
   have C:bp ((a,AV.d (.sl g (fR xs m e)))::s1.r) sv1.r a=(if g=U/\xs.length≠0 then g'.ids else [])++DV.owns (fR xs m e) ys:=by unfold bp;rw[Z];simp only[lk,if_true,AV.own,DV.own,O7]
   have h2:∀t,t≠a->bp ((a,AV.d (.sl g (fR xs m e)))::s1.r) sv1.r t=bp s1.r sv1.r t:=fun t G=>by unfold bp;simp only[lk];rw[aC G]
   have J:=M.held.nodup (.reg a);simp only[aU]at J;rw[u,H0 q m e]at J;obtain⟨u1,u2,u3⟩:=cJ.1 J;obtain⟨v1,v2,v3⟩:=cJ.1 u2;obtain⟨w1,w2,w3⟩:=cJ.1 v2;have R:(AV.d (.sl .sub ((xs.take e).drop m))).own (.d (.sl (if g'= .nil then .nil else .sub) ((ys.take e).drop m)))=DV.owns ((xs.take e).drop m) ((ys.take e).drop m):=by simp[AV.own,DV.own,U]
   have I:=M.over d3 (sx1:=⟨(a,AV.d (.sl g (fR xs m e)))::s1.r,s1.B⟩) (.reg a) (a:= .d (.sl .sub ((xs.take e).drop m))) (v:= .d (.sl (if g'= .nil then .nil else .sub) ((ys.take e).drop m)))
    (fun t x D=>by
     simp only[lk]at D;split at D
     ·rename_i G;subst G
      simp only[ca]at D;subst D
      refine⟨_,Z,?_⟩;simp only[AV.fit,DV.fit];exact⟨_,rfl,_,_,rfl,XQ q m e,by rw[O7];exact hg⟩
     ·exact M.regs t x D)
    M.boxes
    (fun ℓ=>by
     cases ℓ with
     |box j=>exact ct _
     |reg t=>
      simp only[aU]
      by_cases G:t=a
      ·subst G
       rw[u,C,LK q,H0 q m e];exact jg (ct _) (jg (ct _) (j6 _ _))
      ·rw[h2 t G];exact ct _)
    (fun t G=>by
     simp only[lk]at G;split at G
     ·simp at G
     ·exact G)
    (by simp only[AV.fit,DV.fit];exact⟨_,rfl,_,_,rfl,DV.qbw (DV.qbp q e) m,Tag.qWg _ _ _⟩)
    (by rw[R];exact w1)
    (fun j Y=>by
     rw[R]at Y;simp only[aU];rw[u,C,LK q,H0 q m e];refine⟨by simp[Y],fun H=> ?_⟩;rcases bw.1 H with H|H
     ·exact u3 j H j (by simp[Y]) rfl
     ·rcases bw.1 H with H|H
      ·exact v3 j H j (by simp[Y]) rfl
      ·exact w3 j Y j H rfl)
    (k':=sv.c+i+3) (by simp[FOper.pre]) sv.c
   have P:({(sv1.put (some d3) (.d (.sl (if g'= .nil then .nil else .sub) ((ys.take e).drop m))))with c:=sv.c}:St)=sv1.put (some d3) (.d (.sl (if g'= .nil then .nil else .sub) ((ys.take e).drop m))):=by rw[<-c1,DR]
   rw[P]at I;simpa[FOper.pre,FOper.post]using I
  ·simp at hx
 ·simp at hx
theorem Jm(h:AV.fits cs ds)(e:ds[k]?=some v)(x:AV):AV.owns (cs.set k x) ds=AV.owns (cs.take k) (ds.take k)++(x.own v++AV.owns (cs.drop (k+1)) (ds.drop (k+1))):=by
 have u:=AV.qao h;have g:k<ds.length:=(cw.1 e).1;have m:cs.set k x=cs.take k++(x::cs.drop (k+1)):=by rw[IF,ay (by omega)]
 have q:ds=ds.take k++(v::ds.drop (k+1)):=by
  have r:ds[k]=v:=(cw.1 e).2
  conv=>lhs;rw[<-List.take_append_drop k ds,dS g,r]
 rw[m]
 conv=>lhs;rw[q]
 rw[AV.qa0 (by simp[u])];rfl
theorem qK9{l:aG}(h:l[k]?=some v):l.set k v=l:=by
 apply oW;intro j
 by_cases e:k=j
 ·subst e;rw[j7,h];simp
 ·rw[jq e]
theorem yV{v:DV}(h:l[k]?=some v):l.set k v=l:=by
 apply oW;intro j
 by_cases e:k=j
 ·subst e;rw[j7,h];simp
 ·rw[jq e]
theorem Ug(h:AV.fits cs ds){x:AV}(m:ds[k]?=some v)(hx:x.fit v):AV.fits (cs.set k x) ds:=by
 refine(AV.qbq _ _).2 ⟨by simp[AV.qao h],fun i q u e g=> ?_⟩;have r:k<cs.length:=by rw[AV.qao h];exact(cw.1 m).1
 by_cases hi:i=k
 ·subst hi
  rw[pa r]at e;rw[m]at g;simp only[ca]at e g;subst e;subst g;exact hx
 ·rw[jq (Ne.symm hi)]at e
  exact((AV.qbq _ _).1 h).2 i q u e g
theorem q8h(c2:jj X V lin){q:Nat}{b:VX}{d4:Nat}{f4:ae}(hl:(FOper.el d1 q d2 b d3 sz d4 f1 f2 f3 f4).pre.all (VOper.linOK T)=true)(h:Rel A0 T F p (sv.c+i) sx sv)
 (h1:a7 X lin T draw L0 (FOper.el d1 q d2 b d3 sz d4 f1 f2 f3 f4).pre sx=some s1) (hx:je T (.el d1 q d2 b d3 sz d4 f1 f2 f3 f4) s1=some sx'):Il A0 T F p V draw L0 i (.el d1 q d2 b d3 sz d4 f1 f2 f3 f4) sv sx':=by
 obtain⟨sv1,e1,Z,c1⟩:=qN c2 hl h h1;simp only[je]at hx;split at hx
 ·rename_i bx off ik k k1 k2
  split at hx
  ·rename_i hc
   obtain⟨⟨hd4,n1,n2,n3,n4,n5⟩,hk0,hz⟩:=hc;obtain⟨cs,q1,hx⟩:=aL.1 hx;split at hx
   ·rename_i g xs q2
    split at hx
    ·rename_i es q3
     split at hx
     ·rename_i hes
      simp only[ca]at hx;subst hx
      obtain⟨w,k4,kf⟩:=Z.regs q _ k1;simp only[AV.fit]at kf;subst kf
      obtain⟨w,k5,kf⟩:=Z.regs d2 _ k2;simp only[AV.fit,DV.fit]at kf;obtain⟨_,rfl,rfl⟩:=kf;obtain⟨ds,q4,N⟩:=Z.boxes.get q1;obtain⟨w,q5,qf⟩:=AV.qb2 N q2;have b1:=qf;simp only[AV.fit,DV.fit]at b1;obtain⟨_,rfl,g',ys,rfl,O,hg⟩:=b1;obtain⟨e',q6,ef⟩:=DV.qb2 O q3;have h5:=ef;simp only[DV.fit]at h5;obtain⟨e,rfl,P⟩:=h5;have a1:e.length=sz:=by rw[<-DV.qao P];exact hes
      have h3:lk sv1.r d3=some (.ep e):=by
       simp only[FOper.pre,cW,gk,b8,bo]at e1;obtain⟨t1,H,e3⟩:=aL.1 e1;obtain⟨t2,e5,e6⟩:=aL.1 e3;obtain⟨vb,e7,rfl⟩:=aN.1 e5;obtain⟨t3,e8,e9⟩:=aL.1 e6;obtain⟨vc,C,rfl⟩:=aN.1 e8;simp only[ca]at e9;subst e9
       simp only[St.put]at H e3 e5 e7 C k4 k5 q4 q5⊢
       simp only[VX.get]at H;have G:∀(c:AV),t1={sv with r:=(d1,c)::sv.r}->lk sv.r q=some (.ptr bx off)/\t1.B=sv.B:=fun c hc=>by subst hc;simp only[lk,aC (Ne.symm n3),aC (Ne.symm n2),aC (Ne.symm n1)]at k4;exact⟨k4,rfl⟩
       have h2:lk sv.r q=some (.ptr bx off):=by
        split at H
        ·obtain⟨v,_,J⟩:=aN.1 H;exact(G _ J.symm).1
        ·split at H
         ·simp at H
         ·obtain⟨v,_,J⟩:=aN.1 H;exact(G _ J.symm).1
        ·simp at H
       rw[h2]at H;simp only at H;split at H
       ·simp at H
       ·obtain⟨v,J,rfl⟩:=aN.1 H
        simp only[aW]at J;simp only at q4;rw[q4]at J;simp only[bO,bg,if_false]at J;rw[q5]at J;simp only[ca]at J;subst J
        simp only[lk,if_true,VX.get,aC n4,aC (Ne.symm n5)]at C k5⊢
        simp only[ca]at k5;subst k5
        simp only at C;rw[ay hk0,q6]at C;simp only[bO,DV.cells,a1]at C;rw[ay ⟨trivial,hz⟩]at C;exact C.symm
      have ev:cW V p draw L0 (i+3) [⟨some d4,.load true sz (.t d3),none,f4⟩] sv1=some (sv1.put (some d4) (.d (.agg e))):=by simp only[cW,gk,b8,VX.get,h3,cut,if_true];rw[ay (by omega),dD (by omega)];simp only[b9,bO]
      refine⟨_,by rw[vj,e1];exact ev,?_,by rw[y7,c1]⟩;have hk:k.toNat<xs.length:=(cw.1 q3).1;have hb:bx<s1.B.length:=(cw.1 (lL.1 q1)).1;have a2:=C5 O (i:=k.toNat) (x:=(DV.agg es).clr) (DV.qde _ _ ef);rw[yV q6]at a2;have b2:=qJ O hk (DV.agg es).clr (.agg e);rw[yV q6,DV.qbN,cS]at b2;have h4:=qJ O hk (DV.agg es) (.agg e);rw[yV q6,yV q3]at h4;have Y:sv1.B.set bx (some ds)=sv1.B:=by
       apply oW;intro j
       by_cases D:bx=j
       ·subst D;rw[j7,lL.1 q4];simp
       ·rw[jq D]
      have hnf:(AV.d (.sl g (xs.set k.toNat (DV.agg es).clr))).fit (.d (.sl g' ys)):=by simp only[AV.fit,DV.fit];exact⟨_,rfl,_,_,rfl,a2,by rw[rB];exact hg⟩
      have hcf:=Ug N q5 hnf;have a3:=Z.boxes.set bx hcf;rw[Y]at a3;have M:=Jm N q5 (.d (.sl g (xs.set k.toNat (DV.agg es).clr)));have u:=Jm N q5 (.d (.sl g xs));rw[qK9 q2]at u;simp only[AV.own,DV.own,rB]at M u;rw[b2]at M;rw[h4]at u;have I:bD s1.B sv1.B bx=AV.owns cs ds:=by unfold bD;rw[q1,q4]
      have Q:bD (s1.B.set bx (some (cs.set off (.d (.sl g (xs.set k.toNat (DV.agg es).clr)))))) sv1.B bx=AV.owns (cs.set off (.d (.sl g (xs.set k.toNat (DV.agg es).clr)))) ds:=by unfold bD;rw[Aq hb,q4]
      have hmo:(AV.d (.agg es)).own (.d (.agg e))=DV.owns es e:=by simp[AV.own,DV.own]
      simp only[DV.own]at u;have K:=Z.held.nodup (.box bx);simp only[aU,I]at K;rw[u]at K;have S:∀j,j∈DV.owns es e->j∉AV.owns (cs.set off (.d (.sl g (xs.set k.toNat (DV.agg es).clr)))) ds:=fun j D m=>by
       rw[M]at m;obtain⟨u1,u2,u3⟩:=cJ.1 K;obtain⟨v1,v2,v3⟩:=cJ.1 u2;obtain⟨w1,w2,w3⟩:=cJ.1 v1;obtain⟨x1,x2,x3⟩:=cJ.1 w2;obtain⟨y1,y2,y3⟩:=cJ.1 x1;rcases bw.1 m with m|m
       ·exact u3 j m j (by simp[D]) rfl
       ·rcases bw.1 m with m|m
        ·rcases bw.1 m with m|m
         ·exact w3 j m j (by simp[D]) rfl
         ·rcases bw.1 m with m|m
          ·exact y3 j m j D rfl
          ·exact x3 j (by simp[D]) j m rfl
        ·exact v3 j (by simp[D]) j m rfl
      have R:=Z.over d4 (sx1:=⟨s1.r,s1.B.set bx (some (cs.set off (.d (.sl g (xs.set k.toNat (DV.agg es).clr)))))⟩) (.box bx) (a:= .d (.agg es)) (v:= .d (.agg e))
       Z.regs a3
       (fun ℓ=>by
        cases ℓ with
        |reg t=>exact ct _
        |box j=>
         simp only[aU]
         by_cases D:j=bx
         ·subst D
          rw[I,Q,u,M];exact jg (ct _) (jg (jg (ct _) (jg (GJ _ _) (ct _))) (ct _))
         ·rw[Oa (fun he=>D he.symm)];exact ct _)
       (fun t ht=>ht)
       (by simp only[AV.fit,DV.fit];exact⟨_,rfl,_,rfl,P⟩)
       (by
        rw[hmo];obtain⟨u1,u2,u3⟩:=cJ.1 K;obtain⟨v1,v2,v3⟩:=cJ.1 u2;obtain⟨w1,w2,w3⟩:=cJ.1 v1;obtain⟨x1,x2,x3⟩:=cJ.1 w2;exact(cJ.1 x1).2.1)
       (fun j D=>by rw[hmo]at D;simp only[aU];rw[I,Q];exact⟨by rw[u];simp[D],S j D⟩)
       (k':=sv.c+i+4) (by simp[FOper.pre]) sv.c
      have G:({(sv1.put (some d4) (.d (.agg e)))with c:=sv.c}:St)=sv1.put (some d4) (.d (.agg e)):=by rw[<-c1,DR]
      rw[G]at R;simpa[FOper.pre,FOper.post]using R
     ·simp at hx
    ·simp at hx
   ·simp at hx
  ·simp at hx
 ·simp at hx
theorem LO(e:jj X V lin):∀{fs:dZ} {i:Nat} {sx:XS} {sv:St},fs.all (fun f=>f.pre.all (VOper.linOK T))=true->Rel A0 T F p (sv.c+i) sx sv->ew X lin T draw L0 fs sx=some sx'->
 ∃g,cW V p draw L0 i (iw fs) sv=some g/\Rel A0 T F p (sv.c+i+(iw fs).length) sx' g/\g.c=sv.c
 | [],i,sx,sv,_,h,hx=>by simp[ew]at hx;subst hx;exact⟨sv,rfl,h,rfl⟩
 |f::fs,i,sx,sv,m,h,hx=>by
  simp only[fX,cd]at m;simp only[ew]at hx;obtain⟨s1,u,hx⟩:=aL.1 hx;obtain⟨J,r,hx⟩:=aL.1 hx;have C:Il A0 T F p V draw L0 i f sv J:=by
   cases f with
   |one o=>
    simp only[je,ca]at r;subst r
    obtain⟨v1,w,D,e3⟩:=qN e m.1 h u;exact⟨v1,by simpa[FOper.post]using w,by simpa[FOper.post]using D,e3⟩
   |sl d1 a d2 b d3 sz lo hi f1 f2 f3=>exact VC e m.1 h u r
   |el d1 q d2 b d3 sz d4 f1 f2 f3 f4=>exact q8h e m.1 h u r
  obtain⟨v1,w,D,e3⟩:=C;obtain⟨v2,I,G,H⟩:=LO e (i:=i+(f.pre++f.post).length) m.2 (by rw[e3,<-Nat.add_assoc];exact D) hx;refine⟨v2,?_,?_,by rw[H,e3]⟩
  ·simp only[iw]
   rw[<-bX,vj,w];exact I
  ·simp only[iw]
   rw[<-bX,cG (as:=f.pre++f.post),<-Nat.add_assoc];rw[e3,<-Nat.add_assoc]at G;exact G
theorem qvE(g:jj X V lin){fs:dZ}(G:fs.all (fun f=>f.pre.all (VOper.linOK T))=true)(h:Rel A0 T F p sv.c sx sv)(hx:ku X lin T draw na live fs sx=some sx'):
 ∃e,nn V p draw na live (iw fs) sv=some e/\Rel A0 T F p e.c sx' e:=by
 unfold ku at hx;split at hx
 ·simp at hx
 ·rename_i C
  obtain⟨s1,u,rfl⟩:=aN.1 hx;have D:=h.more na;obtain⟨v1,q,m,w⟩:=LO g (i:=0) (sv:={sv with B:=sv.B++List.replicate na none}) G (by simpa using D) u;rw[h.boxes.1]at q;simp only at m w;refine⟨{v1 with r:=keep v1.r live,c:=sv.c+(iw fs).length},by unfold nn;rw[aC C,q];rfl,?_⟩;have:=(m.keep live).at (k':=sv.c+(iw fs).length) (c':=sv.c+(iw fs).length) (by omega);exact this
end
variable{pre:ak}{t t1:Nat}{kd:IntKind}
section
variable {A0:Ids} {T:ae} {F:Id->Prop} {p:Id} {sx sx':XS} {sv:St} {X:cf} {V:cj} {lin:Nat->ae} {draw:Bool} {L0 i:Nat}
theorem Zx{call:cj}{L:Nat}{s':St}(e:rq t t1 pre=true)(h:cW call p false L 0 pre s=some s'):lk s'.r t1=lk s'.r t:=by
 unfold rq at e;split at e
 ·rename_i d a af r
  simp only[cd,vG,bne_iff_ne,eg]at e;obtain⟨⟨⟨⟨rfl,rfl⟩,g⟩,w⟩,C⟩:=e;rw[J7]at h;obtain⟨s1,m,q⟩:=aL.1 h;rw[Iz q w,Iz q C];unfold xH at m;simp only[gk,b8]at m;obtain⟨v,u,rfl⟩:=aN.1 m;simp only[St.put,lk,if_true];rw[aC (by first|exact g|exact fun h=>g h.symm)];simp only[bo,VX.get]at u;exact u.symm
 ·simp at e
theorem NJ:∀{xs vs:aw},xs.all (dc kd)=true->DV.fits xs vs->vs=xs
 | [],vs,_,h=>by simpa only[DV.fits]using h
 | .int k n::xs,vs,e,h=>by simp only[fX,cd]at e;simp only[DV.fits,DV.fit]at h;obtain⟨v,m,rfl,rfl,g⟩:=h;rw[NJ e.2 g]
 | .bool _::xs,_,h,_=>by simp[dc]at h
 | .str _::xs,_,h,_=>by simp[dc]at h
 | .sl _ _::xs,_,h,_=>by simp[dc]at h
 | .agg _::xs,_,h,_=>by simp[dc]at h
 | .tup _::xs,_,h,_=>by simp[dc]at h
theorem G5:∀{xs:aw},xs.all (dc kd)=true->DV.fits xs xs/\DV.owns xs xs=[]
 | [],_=>by simp[DV.fits,DV.owns]
 | .int k n::xs,e=>by simp only[fX,cd]at e;obtain⟨g,m⟩:=G5 e.2;simp only[DV.fits,DV.fit,DV.owns,DV.own,co];exact⟨⟨_,_,rfl,rfl,g⟩,m⟩
 | .bool _::xs,h=>by simp[dc]at h
 | .str _::xs,h=>by simp[dc]at h
 | .sl _ _::xs,h=>by simp[dc]at h
 | .agg _::xs,h=>by simp[dc]at h
 | .tup _::xs,h=>by simp[dc]at h
theorem WH(h:xs.all (dc kd)=true)(k:Nat)(v:Int):(xs.set k (.int kd v)).all (dc kd)=true:=by
 rw[cm]at h⊢
 intro x hx;rcases I0 hx with hx|rfl
 ·exact h x hx
 ·simp[dc]
theorem qvD(S:jj X V lin){i:VX}(hl:pre.all (VOper.linOK T)=true)(h:Rel A0 T F p sv.c sx sv)(hx:rm X lin T na live pre t t1 i x sx=some sx'):
 ∃O,An V p na live pre t t1 i x sv=some O/\Rel A0 T F p O.c sx' O:=by
 unfold rm at hx;split at hx
 ·simp at hx
 rename_i hm;obtain⟨s1,h1,hx⟩:=aL.1 hx;have N:=h.more na;obtain⟨v1,h2,u,h4⟩:=qN S (i:=0) (sv:={sv with B:=sv.B++List.replicate na none}) hl (by simpa using N) h1;rw[h.boxes.1]at h2;have a2:=Zx (by simpa using hm) h2;simp only at u h4;unfold HA at hx;split at hx
 ·rename_i xs kk k kd v Z a3 x3
  split at hx
  ·rename_i hc
   obtain⟨k0,k1,P,k3,k4,k5⟩:=hc;simp only[ca]at hx;subst hx
   obtain⟨C,xr,rfl⟩:∃y ys,xs=y::ys:=by cases xs with|nil=>simp at k1;omega|cons y ys=>exact⟨y,ys,rfl⟩
   obtain⟨v0,hv,hf⟩:=u.regs t _ Z;simp only[AV.fit]at hf;obtain⟨y0,rfl,hf⟩:=hf;have Q:=hf;simp only[DV.fit]at Q;obtain⟨g',ys0,rfl,a1,_⟩:=Q;have b2:=NJ P a1;subst b2;obtain⟨a,sz,rfl,h5,_,_,G,_⟩:=YU hf;obtain⟨s0,o0⟩:=G5 P;have x2:C.cells.length=1:=by simp only[fX,cd]at P;cases C<;>first|rfl|(simp[dc]at P;done)
   rw[x2]at h5;subst h5
   rw[o0]at G;obtain⟨fm,_⟩:=G1 s0;have K:bp s1.r v1.r t=[a]:=by unfold bp;rw[Z,hv];exact G
   have R:a∈aU s1.r s1.B v1.r v1.B (.reg t):=by simp only[aU,K];simp
   obtain⟨ha,hFa,hFu⟩:=u.held.opn _ a R;have x1:∀ℓ,ℓ≠.reg t->∀b,b∈aU s1.r s1.B v1.r v1.B ℓ->v1.A b=true/\b≠a:=fun ℓ hℓ b I=>⟨(u.held.opn ℓ b I).1,fun g=>by subst g;exact hℓ (u.held.apart _ _ _ I R)⟩
   have b1:t∉live:=by simpa using k3
   have c1:=Ic u s0 live k4 (a:=a) fun q m b I=>x1 (.reg q) (fun g=>by simp at g;subst g;exact b1 m) b I
   have c2:=qv3 (A:=v1.A) (a:=a) s0 u.boxes k5 fun j b I=>x1 (.box j) (by simp) b I
   obtain⟨w1,e1,f1⟩:=u.get a3;obtain⟨w2,e2,f2⟩:=u.get x3;simp only[AV.fit]at f1 f2;obtain⟨w1,rfl,f1⟩:=f1;obtain⟨w2,rfl,f2⟩:=f2;simp only[DV.fit]at f1 f2;subst f1 f2;have D:=WH P k.toNat v;obtain⟨s2,o2⟩:=G5 D;have H:((C::xr).set k.toNat (.int kd v)).length≠0:=by simp
   have Y:(DV.sl U ((C::xr).set k.toNat (.int kd v))).fit (.sl (.own a 1) ((C::xr).set k.toNat (.int kd v))):=by simp only[DV.fit];refine⟨_,_,rfl,s2,.inr ⟨rfl,.inr ⟨H,_,_,rfl,fun e g=> ?_⟩⟩⟩;have:=cm.1 D e g;cases e<;>first|rfl|(simp[dc]at this;done)
   have M:(DV.sl U ((C::xr).set k.toNat (.int kd v))).own (.sl (.own a 1) ((C::xr).set k.toNat (.int kd v)))=[a]:=by simp only[DV.own];rw[ay ⟨trivial,H⟩,o2];rfl
   have hk:=(u.keep live).at (k':=sv.c+(pre.length+2)) (c':=sv.c+(pre.length+2)) (by omega);refine⟨⟨(t,.d (.sl (.own a 1) ((C::xr).set k.toNat (.int kd v))))::Go.Proofs.YtpcoohnjllclnaaGreat.VS.keep v1.r live,v1.B,v1.A,sv.c+(pre.length+2)⟩,?_,?_⟩
   ·unfold An
    rw[h2];simp only[bO,Nq,a2,hv,e1,e2];rw[ay ⟨trivial,trivial,trivial,ha,k0,k1,k1,P,k3,c1,c2⟩]
   ·have J:∀q,bp ((t,.d (.sl U ((C::xr).set k.toNat (.int kd v))))::Go.Proofs.YtpcoohnjllclnaaGreat.VS.keep s1.r live) ((t,.d (.sl (.own a 1) ((C::xr).set k.toNat (.int kd v))))::Go.Proofs.YtpcoohnjllclnaaGreat.VS.keep v1.r live) q=if q=t then [a]else bp (Go.Proofs.YtpcoohnjllclnaaGreat.VS.keep s1.r live) (Go.Proofs.YtpcoohnjllclnaaGreat.VS.keep v1.r live) q:=fun q=>by
     unfold bp
     by_cases g:q=t
     ·simp only[lk,g,if_true,AV.own,M]
     ·simp only[lk,aC (show¬t=q from fun h=>g h.symm),aC g]
    refine⟨fun q x' w=> ?_,hk.boxes,V1 (F:=F) (A:=v1.A) (u.at (k':=sv.c+(pre.length+2)) (c':=sv.c+(pre.length+2)) (by omega)).held (fun ℓ=>ℓ) (fun ℓ=> ?_) (fun _ _ _ _ h=>h) (fun b I _=>I),fun q m=> ?_,fun q m=> ?_,hk.am⟩
    ·simp only[lk]at w⊢
     split at w
     ·rename_i g;rw[ay g]
      simp only[ca]at w;subst w
      exact⟨_,rfl,by simp only[AV.fit];exact⟨_,rfl,Y⟩⟩
     ·rename_i g;rw[aC g];exact hk.regs q x' w
    ·cases ℓ with
     |reg q=>
      simp only[aU,J];split
      ·rename_i g;subst g;rw[K];exact ct _
      ·rw[IK];split<;>simp
     |box j=>exact ct _
    ·show bp _ _ q=[]
     rw[J];split
     ·rename_i g;subst g
      have:=u.nl q m;rw[K]at this;simp at this
     ·exact hk.nl q m
    ·simp only[lk]at m⊢
     split at m
     ·simp at m
     ·rename_i g;rw[aC g];exact hk.no q m
  ·simp at hx
 ·simp at hx
theorem Ar(u:jj X V lin)(n:Nat):∀(vc:VCode),vc.linOK T=true->∀sx sv e sx',Rel A0 T F p sv.c sx sv->bP X lin T n vc sx=some (e,sx')->∃D,cV V p n vc sv=some (e,D)/\Rel A0 T F p D.c sx' D:=by
 intro vc
 induction vc with
 |regionS na live pre t t1 i x d f1 f2=>
  intro g sx sv e sx' h hx;simp only[VCode.linOK]at g;simp only[bP]at hx;obtain⟨s1,w,m⟩:=aN.1 hx;simp at m;obtain⟨rfl,rfl⟩:=m
  obtain⟨v1,r,q⟩:=qvD u g h w;exact⟨v1,by simp only[cV,r,b9],q⟩
 |regionF draw na live fs=>
  intro g sx sv e sx' h hx;simp only[VCode.linOK]at g;simp only[bP]at hx;obtain⟨s1,w,m⟩:=aN.1 hx;simp at m;obtain⟨rfl,rfl⟩:=m
  obtain⟨v1,r,q⟩:=qvE u g h w;exact⟨v1,by simp only[cV,r,b9],q⟩
 |skip=>intro _ sx sv e sx' h hx;simp[bP]at hx;obtain⟨rfl,rfl⟩:=hx;exact⟨sv,rfl,h⟩
 |ret=>intro _ sx sv e sx' h hx;simp[bP]at hx;obtain⟨rfl,rfl⟩:=hx;exact⟨sv,rfl,h⟩
 |exit id=>intro _ sx sv e sx' h hx;simp[bP]at hx;obtain⟨rfl,rfl⟩:=hx;exact⟨sv,rfl,h⟩
 |seq a b C G=>
  intro g sx sv e sx' h hx;simp only[VCode.linOK,cd]at g;simp only[bP]at hx;obtain⟨⟨J,s1⟩,w,m⟩:=aL.1 hx;obtain⟨v1,r,q⟩:=C g.1 _ _ _ _ h w;simp only[cV,r,bO];cases J with
  |normal=>exact G g.2 _ _ _ _ q m
  |exit id=>simp at m;obtain⟨rfl,rfl⟩:=m;exact⟨v1,rfl,q⟩
  |ret=>simp at m;obtain⟨rfl,rfl⟩:=m;exact⟨v1,rfl,q⟩
 |region draw na live ops=>
  intro g sx sv e sx' h hx;simp only[VCode.linOK]at g;simp only[bP]at hx;obtain⟨s1,w,m⟩:=aN.1 hx;simp at m;obtain⟨rfl,rfl⟩:=m
  obtain⟨v1,r,q⟩:=qBf u g h w;exact⟨v1,by simp only[cV,r,b9],q⟩
 |cond x a b C G=>
  intro g sx sv e sx' h hx;simp only[VCode.linOK,cd]at g;simp only[bP]at hx;split at hx
  ·rename_i hc
   obtain⟨v1,r,q⟩:=C g.1 _ _ _ _ h hx;exact⟨v1,by simp only[cV,h.getB hc,r],q⟩
  ·rename_i hc
   obtain⟨v1,r,q⟩:=G g.2 _ _ _ _ h hx;exact⟨v1,by simp only[cV,h.getB hc,r],q⟩
  ·simp at hx
 |block id c I=>
  intro g sx sv e sx' h hx;simp only[VCode.linOK]at g;simp only[bP]at hx;obtain⟨⟨J,s1⟩,w,m⟩:=aN.1 hx;obtain⟨v1,r,q⟩:=I g _ _ _ _ h w;simp only[cV,r,b9];split at m
  ·rename_i H
   simp only at H;simp at m;obtain⟨rfl,rfl⟩:=m
   rw[ay H];exact⟨v1,rfl,q⟩
  ·rename_i H
   simp only at H;simp at m;obtain⟨rfl,rfl⟩:=m
   rw[aC H];exact⟨v1,rfl,q⟩
 |loop live c I=>intro g sx sv e sx' h hx;simp only[VCode.linOK]at g;simp only[bP]at hx;simp only[cV];rw[h.boxes.1]at hx;exact qDk (fun sx sv e sx' h hx=>I g sx sv e sx' h hx) _ live n sx sv e sx' h hx
end
end Go.Proofs.YtpcoohnjllclnaaGreat.VS
