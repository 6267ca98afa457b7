/- The engine, part 4: a call of the program answers what an evaluator of values without memory answers, for the functions whose code is the one that the evaluator is given. -/
import Derived.Test.YtpcoohnjllclnaaGreatEngD
set_option linter.unusedSimpArgs false
set_option linter.unusedVariables false
namespace Go.Proofs.YtpcoohnjllclnaaGreat.VS
def U:Tag:= .own [] 0
mutual
def DV.clr:DV->DV
 | .sl _ xs=> .sl .sub (DV.clrs xs)
 | .agg cs=> .agg (DV.clrs cs)
 | .tup vs=> .tup (DV.clrs vs)
 | .int k n=> .int k n
 | .bool b=> .bool b
 | .str s=> .str s
def DV.clrs:aw->aw
 | []=>[]
 |v::r=>v.clr::DV.clrs r
end
mutual
def AV.clr:AV->AV
 | .d v=> .d v.clr
 | .ep cs=> .ep (DV.clrs cs)
 | .fn f cap=> .fn f (AV.clrs cap)
 | .ptr i o=> .ptr i o
 | .nilp=> .nilp
 | .bsl id a i sz n=> .bsl id a i sz n
 | .tsl a i sz n=> .tsl a i sz n
 | .ag t cs=> .ag t (AV.clrs cs)
 | .und=> .und
def AV.clrs:aH->aH
 | []=>[]
 |v::r=>v.clr::AV.clrs r
end
def DV.cn1:DV->DV
 | .sl .nil []=> .sl U []
 |v=>v.clr
def DV.cn:DV->DV
 | .agg cs=> .agg (cs.map DV.cn1)
 |v=>v.cn1
def isAgg:DV->Bool
 | .agg _=>true
 |_=>false
mutual
def DV.allU:DV->Bool
 | .sl _ []=>true
 | .sl g (x::xs)=>decide (g=U)&&DV.allUs (x::xs)
 | .agg cs=>DV.allUs cs
 | .tup _=>false
 | .int _ _=>true
 | .bool _=>true
 | .str _=>true
def DV.allUs:aw->Bool
 | []=>true
 |v::r=>v.allU&&DV.allUs r
end
def DV.allUT:DV->Bool
 | .tup vs=>DV.allUs vs
 |v=>v.allU
structure XS where
 r:aI
 B:az
abbrev dD:=Option (Ex×XS)
abbrev bZ:=Option XS
abbrev b_:=Nat->aH->az->mr
def bj(r:aI):VX->a8
 | .t n=>lk r n
 | .c (.d v)=>some (.d v.cn)
 | .c v=>some v.clr
def cQ(T:ae):bq->Bool
 |some d=>T.contains d
 |none=>false
def a9(T:ae)(s:XS)(dst:bq)(v:AV):XS:=
 match dst with
 |some d=>⟨(d,if T.contains d then v else v.clr)::s.r,s.B⟩
 |none=>s
def ek(T:ae)(r:aI):VX->aI
 | .t n=>if T.contains n then(match lk r n with|some v=>(n,v.clr)::r|none=>r)else r
 | .c _=>r
def du(T:ae)(r:aI):cg->aI
 | []=>r
 |x::xs=>du T (ek T r x) xs
def dH(T:ae)(dst:bq)(s:XS)(xs:cg):XS:=if cQ T dst then⟨du T s.r xs,s.B⟩else s
def pU(B:az)(i off sz:Nat):az:=
 match cd B i with
 |some cs=>B.set i (some (splice cs off (AV.clrs ((cs.drop off).take sz))))
 |none=>B
def fP(B:az):az:=B.map fun b=>b.map AV.clrs
def oW(B:az)(sz i off:Nat)(v:AV):Option az:=
 (cd B i).bind fun cs=>if v.cells.length=sz/\off+sz<=cs.length/\v.cells.all AV.isCell/\v.safe i then some (B.set i (some (splice cs off v.cells)))else none
def ju(r:aI):cg->Option aH
 | []=>some []
 |x::xs=>(bj r x).bind fun v=>(ju r xs).map (v::·)
def dp(LP:ae):Nat->aH->aH
 |_,[]=>[]
 |j,v::r=>(if LP.contains j then v else v.clr)::dp LP (j+1) r
def dm(LP:ae):Nat->cg->cg
 |_,[]=>[]
 |j,x::r=>if LP.contains j then x::dm LP (j+1) r else dm LP (j+1) r
def bU(sz bytes:Nat)(x y:DV):cN:=
 match x,y with
 | .sl g xs,.sl _ ys=>
  if ys.all (fun e=>e.cells.length=sz/\e.cells.all DV.isCell)then
   if ys.isEmpty then some (.sl g xs)
   else if(xs.length+ys.length)*bytes<=140737488355328/\g=U/\xs.all (fun e=>e.cells.length=sz)then some (.sl U (xs++ys))
   else none
  else none
 |_,_=>none
def VX.linT(T:ae):VX->ae
 | .t n=>if T.contains n then [n]else []
 | .c _=>[]
def c9(T:ae):cg->Bool
 | []=>true
 |x::xs=>(x.linT T).all (fun n=> !(xs.any fun y=>(y.linT T).contains n))&&c9 T xs
def VOper.linOK(T:ae)(o:VOper):Bool:=
 match o.op with
 | .build _ ps=>c9 T (ps.map fun q=>q.2.2)
 | .buildSlice _ _ _ ps=>c9 T (ps.map fun q=>q.2)
 | .append _ _ x y=>c9 T [x,y]
 |_=>true
def VRes.vx:VRes->cg
 | .tmp t=>[.t t]
 | .cell _ _ _=>[]
def VCode.linOK(T:ae):VCode->Bool
 | .seq a b=>a.linOK T&&b.linOK T
 | .region _ _ _ ops=>ops.all (VOper.linOK T)
 | .cond _ a b=>a.linOK T&&b.linOK T
 | .block _ c=>c.linOK T
 | .loop _ c=>c.linOK T
 | .regionF _ _ _ fs=>fs.all fun f=>f.pre.all (VOper.linOK T)
 | .regionS _ _ pre _ _ _ _ _ _ _=>pre.all (VOper.linOK T)
 |_=>true
def VFn.linOK(T:ae)(f:VFn):Bool:=f.code.linOK T&&c9 T (f.results.flatMap VRes.vx)
def tR(T:ae)(thaw:Bool)(s:XS)(dst:bq)(v:DV):bZ:=if v.allUT then some (if thaw then a9 T ⟨s.r,s.B++(v.clr.thaw s.B.length).2⟩ dst (v.clr.thaw s.B.length).1 else a9 T s dst (.d v))else none
def xg(T:ae)(dst:bq)(sz:Nat)(arr:bq)(x i:VX)(s:XS):bZ:=
 match cQ T dst,x,arr with
 |true,.t n,none=>
  match bj s.r x,bj s.r i with
  |some (.d (.sl g xs)),some (.d (.int _ k))=>
   if 0<=k then(xs[k.toNat]?).bind fun e=>if e.cells.length=sz/\sz≠0 then some (a9 T (if T.contains n then⟨(n,.d (.sl g (xs.set k.toNat e.clr)))::s.r,s.B⟩else s) dst (.ep e.cells))else none
   else none
  |_,_=>none
 |_,_,_=>(bm s.r (.indexAddr sz arr x i)).map fun v=>a9 T s dst v.clr
def bf(call:b_)(lin:Nat->ae)(T:ae)(draw:Bool)(L0:Nat)(o:VOper)(s:XS):bZ:=
 match o.op with
 | .move x=>(bj s.r x).map fun v=>a9 T (dH T o.dst s [x]) o.dst v
 | .pick c a b=>
  match bj s.r c with
  |some (.d (.bool true))=>(bj s.r a).map fun v=>a9 T (dH T o.dst s [a]) o.dst v
  |some (.d (.bool false))=>(bj s.r b).map fun v=>a9 T (dH T o.dst s [b]) o.dst v
  |_=>none
 | .alloc k zero=>if eO s.B (L0+k)/\zero.all DV.isCell then some (a9 T ⟨s.r,s.B.set (L0+k) (some (zero.map fun z=> .d z.cn1))⟩ o.dst (.ptr (L0+k) 0))else none
 | .box k x=>
  (bj s.r x).bind fun v=>
   if eO s.B (L0+k)/\v.cells.all AV.isCell/\v.safe (L0+k)then
    some (a9 T ⟨ek T s.r x,s.B.set (L0+k) (some v.cells)⟩ o.dst (.ptr (L0+k) 0))
   else none
 | .build zero parts=>(io (bj s.r) (zero.map DV.cn1) parts).map fun cs=>a9 T (dH T o.dst s (parts.map fun q=>q.2.2)) o.dst (.d (.agg cs))
 | .buildSlice sz zero len parts=>
  if zero.cells.length=sz/\zero.cells.all DV.isCell/\len*sz<=16777216/\len<=16777216 then
   (fj (bj s.r) sz (List.replicate len zero.cn) parts).map fun xs=>a9 T (dH T o.dst s (parts.map fun q=>q.2)) o.dst (.d (.sl U xs))
  else none
 | .makeSlice k sz bytes zero x=>
  match bj s.r x with
  |some (.d (.int _ n))=>
   if draw=false/\eO s.B (L0+k)/\0<=n/\n.toNat*bytes<=140737488355328/\n<9223372036854775808/\zero.cells.length=sz/\zero.cells.all DV.isCell then
    some (a9 T ⟨s.r,s.B.set (L0+k) (some (((List.replicate n.toNat zero.cn).flatMap DV.cells).map .d))⟩ o.dst
     (.bsl [] (isAgg zero) (L0+k) sz n.toNat))
   else none
  |_=>none
 | .load agg sz a=>
  match bj s.r a with
  |some (.ep cs)=>(cut agg sz cs).map fun v=>a9 T (dH T o.dst s [a]) o.dst (.d v)
  |some (.ptr b off)=>if draw/\L0<=b then none else(aW s.B agg sz b off).map fun v=>a9 T (if cQ T o.dst then⟨s.r,pU s.B b off (if agg then sz else 1)⟩else s) o.dst v
  |_=>none
 | .store init sz a x=>
  match bj s.r a,bj s.r x with
  |some (.ptr b off),some v=>if nD draw init L0 b then none else(oW s.B sz b off v).map fun B=>a9 T ⟨ek T s.r x,B⟩ o.dst .und
  |_,_=>none
 | .storeN sz a x av=>
  match bj s.r a,bj s.r x with
  |some (.ptr b off),some v=>if nD draw false L0 b|| !lD s.r b av then none else(oW s.B sz b off v).map fun B=>a9 T ⟨ek T s.r x,B⟩ o.dst .und
  |_,_=>none
 | .append sz bytes x y=>
  match bj s.r x,bj s.r y with
  |some (.d v),some (.d w)=>(bU sz bytes v w).map fun u=>a9 T ⟨du T s.r (if cQ T o.dst then [x,y]else [x]),s.B⟩ o.dst (.d u)
  |_,_=>none
 | .call iso f args=>
  match bj s.r f,ju s.r args with
  |some (.fn k caps),some vs=>
   if iso then
    match bd vs,caps with
    |some _,[]=>
     match call k (dp [] 0 vs) []with
     |some (.d v,_)=>some (a9 T s o.dst (.d v))
     |_=>none
    |_,_=>none
   else
    if c9 T (dm (lin k) 0 args)then
     match call k (dp (lin k) 0 vs++caps) s.B with
     |some (v,B)=>some (a9 T ⟨du T s.r (dm (lin k) 0 args),B⟩ o.dst v)
     |none=>none
    else none
  |_,_=>none
 | .extract x i=>
  match bj s.r x with
  |some (.ag true vs)=>(vs[i]?).map fun v=>a9 T s o.dst v.clr
  |some (.d (.tup vs))=>(vs[i]?).map fun v=>a9 T (match x with| .t n=>if cQ T o.dst&&T.contains n then⟨(n,.d (.tup (vs.set i v.clr)))::s.r,s.B⟩else s| .c _=>s) o.dst (.d v)
  |_=>none
 | .eqNil _ _=>none
 | .indexAddr sz arr x i=>xg T o.dst sz arr x i s
 |op=>(bm s.r op).map fun v=>a9 T s o.dst v.clr
def a7(call:b_)(lin:Nat->ae)(T:ae)(draw:Bool)(L0:Nat):aj->XS->bZ
 | [],s=>some s
 |o::os,s=>
  match g9 s.r o.guard with
  |some true=>(bf call lin T draw L0 o s).bind (a7 call lin T draw L0 os)
  |some false=>a7 call lin T draw L0 os (a9 T s o.dst .und)
  |none=>none
def aA(e:Nat)(live:ae)(s:XS):bZ:=if aB e (keep s.r live)/\e<=s.B.length then some ⟨keep s.r live,s.B.take e⟩else none
def fu(f:XS->dD)(e:Nat)(live:ae):Nat->XS->dD
 |0,_=>none
 |n+1,s=>
  (aA e live s).bind fun s0=>
   (f s0).bind fun r=>
    match r.1 with
    | .normal=>fu f e live n r.2
    |_=>some r
def kV(call:b_)(lin:Nat->ae)(T:ae)(draw:Bool)(na:Nat)(live:ae)(ops:aj)(s:XS):bZ:=
 if draw&& !w5 ops then none
 else(a7 call lin T draw s.B.length ops ⟨s.r,s.B++List.replicate na none⟩).map fun s'=>⟨keep s'.r live,s'.B⟩
def fX(xs:aw)(l h:Nat):aw:=(xs.take h).take l++DV.clrs ((xs.take h).drop l)++xs.drop h
def i9(T:ae):FOper->XS->bZ
 | .one _,s=>some s
 | .sl d1 a d2 _ d3 sz lo hi _ _ _,s=>
  match lk s.r a,eD s.r lo,eD s.r hi with
  |some (.d (.sl g xs)),some lo,some hi=>
   if(T.contains a=true/\T.contains d3=true/\d1≠a/\d2≠a/\d1≠d2)/\xs.all (fun e=>e.cells.length=sz)then
    (gL xs.length hi).bind fun h=>(gB h lo).map fun l=>a9 T ⟨(a,.d (.sl g (fX xs l h)))::s.r,s.B⟩ (some d3) (.d (.sl .sub ((xs.take h).drop l)))
   else none
  |_,_,_=>none
 | .el d1 q d2 _ d3 sz d4 _ _ _ _,s=>
  match lk s.r q,lk s.r d2 with
  |some (.ptr b off),some (.d (.int _ k))=>
   if(T.contains d4=true/\d1≠q/\d2≠q/\d3≠q/\d1≠d2/\d3≠d2)/\0<=k/\sz≠0 then
    (cd s.B b).bind fun cs=>
     match cs[off]? with
     |some (.d (.sl g xs))=>
      match xs[k.toNat]? with
      |some (.agg es)=>if es.length=sz then some (a9 T ⟨s.r,s.B.set b (some (cs.set off (.d (.sl g (xs.set k.toNat (DV.agg es).clr)))))⟩ (some d4) (.d (.agg es)))else none
      |_=>none
     |_=>none
   else none
  |_,_=>none
def ey(call:b_)(lin:Nat->ae)(T:ae)(draw:Bool)(L0:Nat):d5->XS->bZ
 | [],s=>some s
 |f::fs,s=>(a7 call lin T draw L0 f.pre s).bind fun s1=>(i9 T f s1).bind (ey call lin T draw L0 fs)
def lp(call:b_)(lin:Nat->ae)(T:ae)(draw:Bool)(na:Nat)(live:ae)(fs:d5)(s:XS):bZ:=
 if draw&& !w5 (iJ fs)then none
 else(ey call lin T draw s.B.length fs ⟨s.r,s.B++List.replicate na none⟩).map fun s'=>⟨keep s'.r live,s'.B⟩
mutual
def DV.xrest(rs:aw):DV->Bool
 | .agg cs=>DV.xrests rs cs
 | .tup cs=>DV.xrests rs cs
 | .sl g xs=>(xs.isEmpty||(xs.flatMap DV.cells).any (fun c=>rs.all fun r=> !c.like r)||decide (g=U))&&DV.xrests rs xs
 | .int _ _=>true
 | .bool _=>true
 | .str _=>true
def DV.xrests(rs:aw):aw->Bool
 | []=>true
 |v::r=>v.xrest rs&&DV.xrests rs r
end
def AV.xrest(rs:aw):AV->Bool
 | .d v=>v.xrest rs
 | .ptr _ _=>true
 | .nilp=>true
 | .bsl _ _ _ _ _=>true
 | .tsl _ _ _ _=>true
 | .und=>true
 | .fn _ []=>true
 |_=>false
def oC(rs:aw)(r:aI):Bool:=r.all fun q=>q.2.xrest rs
def lR(rs:aw)(B:az):Bool:=B.all fun b=>match b with|none=>true|some cs=>cs.all (AV.xrest rs)
def p9(t t1:Nat):aj->Bool
 |⟨some d,.move (.t a),none,_⟩::r=>d==t1&&a==t&&t !=t1&&(r.all fun o=>o.dst !=some t1)&&r.all fun o=>o.dst !=some t
 |_=>false
def Iv(live:ae)(t:Nat)(i x:VX)(s1:XS):bZ:=
 match lk s1.r t,bj s1.r i,bj s1.r x with
 |some (.d (.sl (.own [] 0) xs)),some (.d (.int _ k)),some (.d (.int kd v))=>if 0<=k/\k<xs.length/\xs.all (da kd)=true/\live.contains t=false/\oC xs (keep s1.r live)=true/\lR xs s1.B=true then some ⟨(t,.d (.sl U (xs.set k.toNat (.int kd v))))::keep s1.r live,s1.B⟩else none
 |_,_,_=>none
def qL(call:b_)(lin:Nat->ae)(T:ae)(na:Nat)(live:ae)(pre:aj)(t t1:Nat)(i x:VX)(s:XS):bZ:=if p9 t t1 pre=false then none else(a7 call lin T false s.B.length pre {s with B:=s.B++List.replicate na none}).bind fun s1=>Iv live t i x s1
def bR(call:b_)(lin:Nat->ae)(T:ae)(n:Nat):VCode->XS->dD
 | .skip,s=>some (.normal,s)
 | .ret,s=>some (.ret,s)
 | .exit id,s=>some (.exit id,s)
 | .seq a b,s=>
  (bR call lin T n a s).bind fun r=>
   match r.1 with
   | .normal=>bR call lin T n b r.2
   |_=>some r
 | .region draw na live ops,s=>(kV call lin T draw na live ops s).map fun s'=>(.normal,s')
 | .cond x a b,s=>
  match bj s.r x with
  |some (.d (.bool true))=>bR call lin T n a s
  |some (.d (.bool false))=>bR call lin T n b s
  |_=>none
 | .block id c,s=>(bR call lin T n c s).map fun r=>if r.1= .exit id then(.normal,r.2)else r
 | .loop live c,s=>fu (bR call lin T n c) s.B.length live n s
 | .regionF draw na live fs,s=>(lp call lin T draw na live fs s).map fun s'=>(.normal,s')
 | .regionS na live pre t t1 i x _ _ _,s=>(qL call lin T na live pre t t1 i x s).map fun s'=>(.normal,s')
def tx(s:XS):VRes->a8
 | .tmp t=>lk s.r t
 | .cell t agg sz=>
  match lk s.r t with
  |some (.ptr i off)=>(aW s.B agg sz i off).map AV.clr
  |_=>none
def qz(s:XS):jn->Option aH
 | []=>some []
 |x::xs=>(tx s x).bind fun v=>(qz s xs).map (v::·)
def FV(L:Nat)(s:XS)(t:Nat)(agg:Bool)(sz:Nat):mr:=
 match lk s.r t with
 |some (.ptr i off)=>
  if L<=i then
   match aW s.B agg sz i off with
   |some (.d v)=>some (.d v,s.B.take L)
   |_=>none
  else none
 |_=>none
def CJ(L:Nat)(s:XS)(rs:jn):mr:=
 match qz s rs with
 |some [.d v]=>some (.d v,s.B.take L)
 |some [.ptr i off]=>some (.ptr i off,s.B)
 |some [.bsl _ agg i sz n]=>
  if L<=i/\n<9223372036854775808 then
   ((cd s.B i).bind bd).bind fun cs=>if cs.length=n*sz then(chunks agg sz n cs).map fun xs=>(.d (.sl U xs),s.B.take L)else none
  else none
 |some [_]=>none
 |some vs=>(bd vs).map fun ds=>(.d (.tup ds),s.B.take L)
 |none=>none
def G1(L:Nat)(s:XS)(t1:Nat)(m:Bool)(q G:Nat)(u:Bool)(D w:Nat):mr:=
 match lk s.r t1,lk s.r G,lk s.r w with
 |some (.ptr g h),some (.ptr e C),some (.d (.bool b))=>
  if L<=g/\L<=e/\g≠e then
   match aW s.B m q g h,aW s.B u D e C with
   |some (.d v1),some (.d v2)=>some (.d (.tup [v1,v2,.bool b]),s.B.take L)
   |_,_=>none
  else none
 |_,_,_=>none
def fO(L:Nat)(s:XS):jn->mr
 | [.cell t agg sz]=>FV L s t agg sz
 | [.cell t1 m e,.cell r g q,.tmp h]=>G1 L s t1 m e r g q h
 |rs=>CJ L s rs
structure XEnv where
 env:Env
 lin:Nat->ae
 nat:Nat->Option (aw->cN)
def jh(call:b_)(sf:SFn)(x:DV)(xr:aw):Option aw:=
 if DV.allUs (x::xr)=true then
  match call sf.srt [.tsl true 0 x.cells.length (xr.length+1),.fn sf.cmp []] [some (((x::xr).flatMap DV.cells).map .d)]with
  |some (_,[some cs])=>(bd cs).bind fun es=>if es.length=(xr.length+1)*x.cells.length then chunks true x.cells.length (xr.length+1) es else none
  |_=>none
 else none
def ta(s:XS):Option (DV×DV):=
 match lk s.r 3,lk s.r 4,s.B with
 |some (.ptr 0 0),some (.ptr 1 0),[some [.d e,.d g,_],some [.d m,.d h,.d q]]=>if e.flat&&g.flat&&m.flat&&h.flat&&q.flat&&e.isCell&&g.isCell then some (e.clr,g.clr)else none
 |_,_,_=>none
def jY(call:b_)(lin:Nat->ae)(T:ae)(n:Nat)(sf:SFn)(ds:aw):cN:=
 if ds.length≠sf.np then none else
  (bR call lin T n sf.pre ⟨bA 0 (ds.map .d),[]⟩).bind fun r=>
   match r.1,lk r.2.r sf.cond,lk r.2.r sf.row with
   | .normal,some (.d (.bool true)),some (.d (.sl (.own [] 0) (x::xr)))=>(ta r.2).bind fun y=>(jh call sf x xr).map fun q=> .agg [y.1,y.2,.sl U q]
   | .normal,some (.d (.bool false)),_| .normal,some (.d (.bool true)),some (.d (.sl _ []))=>
    (bR call lin T n sf.rest r.2).bind fun e=>
     match e.1 with
     | .exit _=>none
     |_=>(fO 0 e.2 sf.results).bind fun q=>match q.1 with
      | .d v=>some v
      |_=>none
   |_,_,_=>none
def cj(X:XEnv):Nat->b_
 |0,_,_,_=>none
 |n+1,f,args,B=>
  match X.nat f with
  |some g=>(bd args).bind fun ds=>(g ds).map fun v=>(.d v,B)
  |none=>
   match X.env.code f with
   |none=>
    match X.env.spec f with
    |none=>none
    |some sf=>(bd args).bind fun ds=>(jY (cj X n) X.lin (X.lin f) n sf ds).map fun v=>(.d v,B)
   |some vf=>
    if args.length≠vf.np then none else
     match X.env.base f with
     |none=>(bR (cj X n) X.lin (X.lin f) n vf.code ⟨bA 0 args,B⟩).bind fun r=>
      match r.1 with
      | .exit _=>none
      |_=>fO B.length r.2 vf.results
     |some m=>if B.length≠m then none else(bR (cj X n) X.lin (X.lin f) n vf.code ⟨bA 0 (AV.clrs args),fP B⟩).bind fun r=>
      match r.1 with
      | .exit _=>none
      |_=>fO B.length r.2 vf.results
def Tag.ids:Tag->eP
 | .own a _=>[a]
 |_=>[]
def Tag.fit(g:Tag)(n:Nat)(g':Tag)(ys:aw):Prop:=g= .sub\/(g=U/\((n=0/\(g'= .nil\/∃a sz,g'= .own a sz))\/(n≠0/\∃a sz,g'= .own a sz/\∀e:DV,e∈ys->e.cells.length=sz)))
mutual
def DV.fit:DV->DV->Prop
 | .sl g xs,v=>∃g' ys,v= .sl g' ys/\DV.fits xs ys/\g.fit xs.length g' ys
 | .agg cs,v=>∃ds,v= .agg ds/\DV.fits cs ds
 | .tup cs,v=>∃ds,v= .tup ds/\DV.fits cs ds
 | .int k n,v=>v= .int k n
 | .bool b,v=>v= .bool b
 | .str s,v=>v= .str s
def DV.fits:aw->aw->Prop
 | [],ys=>ys=[]
 |x::xs,ys=>∃v vs,ys=v::vs/\x.fit v/\DV.fits xs vs
end
mutual
def DV.own:DV->DV->eP
 | .sl g xs,.sl g' ys=>(if g=U/\xs.length≠0 then g'.ids else [])++DV.owns xs ys
 | .agg cs,.agg ds=>DV.owns cs ds
 | .tup cs,.tup ds=>DV.owns cs ds
 |_,_=>[]
def DV.owns:aw->aw->eP
 |x::xs,y::ys=>x.own y++DV.owns xs ys
 |_,_=>[]
end
def AV.own:AV->AV->eP
 | .d x,.d v=>x.own v
 | .ep cs,.ep ds=>DV.owns cs ds
 |_,_=>[]
def AV.owns:aH->aH->eP
 |x::xs,y::ys=>x.own y++AV.owns xs ys
 |_,_=>[]
mutual
def AV.fit:AV->AV->Prop
 | .d x,v=>∃y,v= .d y/\x.fit y
 | .ep cs,v=>∃ds,v= .ep ds/\DV.fits cs ds
 | .fn f cap,v=>∃e,v= .fn f e/\AV.fits cap e/\AV.owns cap e=[]
 | .ptr i o,v=>v= .ptr i o
 | .nilp,v=>v= .nilp
 | .bsl _ a i sz n,v=>∃id,v= .bsl id a i sz n
 | .tsl a i sz n,v=>v= .tsl a i sz n
 | .ag t cs,v=>∃ds,v= .ag t ds/\AV.fits cs ds/\AV.owns cs ds=[]
 | .und,v=>v= .und
def AV.fits:aH->aH->Prop
 | [],ys=>ys=[]
 |x::xs,ys=>∃v vs,ys=v::vs/\x.fit v/\AV.fits xs vs
end
theorem Tag.qVT(n:Nat)(g':Tag)(ys:aw):Tag.fit .sub n g' ys:= .inl rfl
mutual
theorem DV.qc8:∀(x v:DV),x.fit v->x.clr.fit v
 | .sl g xs,v,h=>by
  simp only[DV.fit,DV.clr]at h⊢
  obtain⟨g',ys,rfl,e,m⟩:=h;exact⟨g',ys,rfl,DV.qbD xs ys e,.inl rfl⟩
 | .agg cs,v,h=>by
  simp only[DV.fit,DV.clr]at h⊢
  obtain⟨ds,rfl,e⟩:=h;exact⟨ds,rfl,DV.qbD cs ds e⟩
 | .tup cs,v,h=>by
  simp only[DV.fit,DV.clr]at h⊢
  obtain⟨ds,rfl,e⟩:=h;exact⟨ds,rfl,DV.qbD cs ds e⟩
 | .int k n,v,h=>by simpa only[DV.fit,DV.clr]using h
 | .bool b,v,h=>by simpa only[DV.fit,DV.clr]using h
 | .str s,v,h=>by simpa only[DV.fit,DV.clr]using h
theorem DV.qbD:∀(xs ys:aw),DV.fits xs ys->DV.fits (DV.clrs xs) ys
 | [],ys,h=>by simpa only[DV.fits,DV.clrs]using h
 |x::xs,ys,h=>by
  simp only[DV.fits,DV.clrs]at h⊢
  obtain⟨v,vs,rfl,e,g⟩:=h;exact⟨v,vs,rfl,DV.qc8 x v e,DV.qbD xs vs g⟩
end
mutual
theorem DV.qbM:∀(x v:DV),x.clr.own v=[]
 | .sl g xs,v=>by cases v<;>simp[DV.clr,DV.own,DV.qfy xs,U]
 | .agg cs,v=>by cases v<;>simp[DV.clr,DV.own,DV.qfy cs]
 | .tup cs,v=>by cases v<;>simp[DV.clr,DV.own,DV.qfy cs]
 | .int k n,v=>by cases v<;>simp[DV.clr,DV.own]
 | .bool b,v=>by cases v<;>simp[DV.clr,DV.own]
 | .str s,v=>by cases v<;>simp[DV.clr,DV.own]
theorem DV.qfy:∀(xs ys:aw),DV.owns (DV.clrs xs) ys=[]
 | [],ys=>by simp[DV.clrs,DV.owns]
 |x::xs,ys=>by cases ys<;>simp[DV.clrs,DV.owns,DV.qbM x,DV.qfy xs]
end
mutual
theorem DV.qbe:∀(x:DV),x.clr.fit x
 | .sl g xs=>by simp only[DV.clr,DV.fit];exact⟨_,_,rfl,DV.qcv xs,.inl rfl⟩
 | .agg cs=>by simp only[DV.clr,DV.fit];exact⟨_,rfl,DV.qcv cs⟩
 | .tup cs=>by simp only[DV.clr,DV.fit];exact⟨_,rfl,DV.qcv cs⟩
 | .int k n=>by simp[DV.clr,DV.fit]
 | .bool b=>by simp[DV.clr,DV.fit]
 | .str s=>by simp[DV.clr,DV.fit]
theorem DV.qcv:∀(xs:aw),DV.fits (DV.clrs xs) xs
 | []=>by simp[DV.clrs,DV.fits]
 |x::xs=>by simp only[DV.clrs,DV.fits];exact⟨_,_,rfl,DV.qbe x,DV.qcv xs⟩
end
theorem DV.qay:∀l:aw,DV.clrs l=l.map DV.clr
 | []=>by simp[DV.clrs]
 |x::xs=>by simp[DV.clrs,DV.qay xs]
theorem AV.qay:∀l:aH,AV.clrs l=l.map AV.clr
 | []=>by simp[AV.clrs]
 |x::xs=>by simp[AV.clrs,AV.qay xs]
theorem DV.qbt:∀(xs ys:aw),DV.fits xs ys↔xs.length=ys.length/\∀(i:Nat) (x y:DV),xs[i]?=some x->ys[i]?=some y->x.fit y
 | [],ys=>by
  simp only[DV.fits];constructor
  ·rintro rfl;simp
  ·rintro⟨h,_⟩;exact ib.1 h.symm
 |x::xs,ys=>by
  simp only[DV.fits];constructor
  ·rintro⟨v,vs,rfl,m,q⟩
   obtain⟨u,r⟩:=(DV.qbt xs vs).1 q;refine⟨by simp[u],fun i a b e g=> ?_⟩;cases i with
   |zero=>simp at e g;subst e;subst g;exact m
   |succ i=>simp at e g;exact r i a b e g
  ·rintro⟨m,q⟩
   cases ys with
   |nil=>simp at m
   |cons y ys=>exact⟨y,ys,rfl,q 0 x y rfl rfl,(DV.qbt xs ys).2 ⟨by simpa using m,fun i a b e g=>q (i+1) a b (by simpa using e) (by simpa using g)⟩⟩
theorem AV.qbt:∀(xs ys:aH),AV.fits xs ys↔xs.length=ys.length/\∀(i:Nat) (x y:AV),xs[i]?=some x->ys[i]?=some y->x.fit y
 | [],ys=>by
  simp only[AV.fits];constructor
  ·rintro rfl;simp
  ·rintro⟨h,_⟩;exact ib.1 h.symm
 |x::xs,ys=>by
  simp only[AV.fits];constructor
  ·rintro⟨v,vs,rfl,m,q⟩
   obtain⟨u,r⟩:=(AV.qbt xs vs).1 q;refine⟨by simp[u],fun i a b e g=> ?_⟩;cases i with
   |zero=>simp at e g;subst e;subst g;exact m
   |succ i=>simp at e g;exact r i a b e g
  ·rintro⟨m,q⟩
   cases ys with
   |nil=>simp at m
   |cons y ys=>exact⟨y,ys,rfl,q 0 x y rfl rfl,(AV.qbt xs ys).2 ⟨by simpa using m,fun i a b e g=>q (i+1) a b (by simpa using e) (by simpa using g)⟩⟩
variable{xs ys:aw}
theorem DV.qao(h:DV.fits xs ys):xs.length=ys.length:=((DV.qbt xs ys).1 h).1
theorem AV.qao{xs ys:aH}(h:AV.fits xs ys):xs.length=ys.length:=((AV.qbt xs ys).1 h).1
variable{i:Nat}
theorem DV.qbZ(h:DV.fits xs ys){x:DV}(hx:xs[i]?=some x):∃y,ys[i]?=some y/\x.fit y:=by
 obtain⟨g,m⟩:=(DV.qbt xs ys).1 h;have e:i<ys.length:=by rw[<-g];exact(cW.1 hx).1
 exact⟨ys[i],by simp[e],m i x _ hx (by simp[e])⟩
theorem AV.qbZ{xs ys:aH}(h:AV.fits xs ys){x:AV}(hx:xs[i]?=some x):∃y,ys[i]?=some y/\x.fit y:=by
 obtain⟨g,m⟩:=(AV.qbt xs ys).1 h;have e:i<ys.length:=by rw[<-g];exact(cW.1 hx).1
 exact⟨ys[i],by simp[e],m i x _ hx (by simp[e])⟩
variable{b c d:aw}
theorem DV.qa5{a:aw}(e:DV.fits a c)(q:DV.fits b d):DV.fits (a++b) (c++d):=by
 induction a generalizing c with
 |nil=>simp only[DV.fits]at e;subst e;simpa using q
 |cons x xs h=>simp only[DV.fits]at e;obtain⟨v,vs,rfl,g,m⟩:=e;simp only[c_,DV.fits];exact⟨v,vs++d,rfl,g,h m⟩
theorem AV.qa5{a b c d:aH}(e:AV.fits a c)(q:AV.fits b d):AV.fits (a++b) (c++d):=by
 induction a generalizing c with
 |nil=>simp only[AV.fits]at e;subst e;simpa using q
 |cons x xs h=>simp only[AV.fits]at e;obtain⟨v,vs,rfl,g,m⟩:=e;simp only[c_,AV.fits];exact⟨v,vs++d,rfl,g,h m⟩
theorem DV.qbo{a:aw}(h:DV.fits a c)(n:Nat):DV.fits (a.take n) (c.take n):=by
 induction a generalizing c n with
 |nil=>simp only[DV.fits]at h;subst h;simp[DV.fits]
 |cons x xs g=>
  simp only[DV.fits]at h;obtain⟨v,vs,rfl,e,m⟩:=h;cases n with
  |zero=>simp[DV.fits]
  |succ n=>simp only[yN,DV.fits];exact⟨_,_,rfl,e,g m n⟩
theorem DV.qbu{a:aw}(h:DV.fits a c)(n:Nat):DV.fits (a.drop n) (c.drop n):=by
 induction a generalizing c n with
 |nil=>simp only[DV.fits]at h;subst h;simp[DV.fits]
 |cons x xs e=>
  have h':=h;simp only[DV.fits]at h;obtain⟨v,vs,rfl,m,g⟩:=h;cases n with
  |zero=>simpa using h'
  |succ n=>simpa using e g n
theorem AV.qbo{a c:aH}(h:AV.fits a c)(n:Nat):AV.fits (a.take n) (c.take n):=by
 induction a generalizing c n with
 |nil=>simp only[AV.fits]at h;subst h;simp[AV.fits]
 |cons x xs g=>
  simp only[AV.fits]at h;obtain⟨v,vs,rfl,e,m⟩:=h;cases n with
  |zero=>simp[AV.fits]
  |succ n=>simp only[yN,AV.fits];exact⟨_,_,rfl,e,g m n⟩
theorem AV.qbu{a c:aH}(h:AV.fits a c)(n:Nat):AV.fits (a.drop n) (c.drop n):=by
 induction a generalizing c n with
 |nil=>simp only[AV.fits]at h;subst h;simp[AV.fits]
 |cons x xs e=>
  have h':=h;simp only[AV.fits]at h;obtain⟨v,vs,rfl,m,g⟩:=h;cases n with
  |zero=>simpa using h'
  |succ n=>simpa using e g n
theorem DV.qaY{a:aw}(h:a.length=c.length):DV.owns (a++b) (c++d)=DV.owns a c++DV.owns b d:=by
 induction a generalizing c with
 |nil=>cases c with
  |nil=>simp[DV.owns]
  |cons _ _=>simp at h
 |cons x xs e=>cases c with
  |nil=>simp at h
  |cons y ys=>simp[DV.owns,e (c:=ys) (by simpa using h),bW]
theorem AV.qaY{a b c d:aH}(h:a.length=c.length):AV.owns (a++b) (c++d)=AV.owns a c++AV.owns b d:=by
 induction a generalizing c with
 |nil=>cases c with
  |nil=>simp[AV.owns]
  |cons _ _=>simp at h
 |cons x xs e=>cases c with
  |nil=>simp at h
  |cons y ys=>simp[AV.owns,e (c:=ys) (by simpa using h),bW]
theorem DV.qbY{a:aw}(h:a.length=c.length)(n:Nat):DV.owns a c=DV.owns (a.take n) (c.take n)++DV.owns (a.drop n) (c.drop n):=by rw[<-DV.qaY (by simp[h]),dK,dK]
theorem AV.qbY{a c:aH}(h:a.length=c.length)(n:Nat):AV.owns a c=AV.owns (a.take n) (c.take n)++AV.owns (a.drop n) (c.drop n):=by rw[<-AV.qaY (by simp[h]),dK,dK]
theorem DV.qb4{x y:DV}(hx:xs[i]?=some x)(hy:ys[i]?=some y):(x.own y).Sublist (DV.owns xs ys):=by
 induction xs generalizing ys i with
 |nil=>simp at hx
 |cons a as e=>cases ys with
  |nil=>simp at hy
  |cons b bs=>cases i with
   |zero=>simp at hx hy;subst hx;subst hy;simp[DV.owns]
   |succ i=>simp at hx hy;simp only[DV.owns];exact(e hx hy).trans (jZ _ _)
theorem AV.qb4{xs ys:aH}{x y:AV}(hx:xs[i]?=some x)(hy:ys[i]?=some y):(x.own y).Sublist (AV.owns xs ys):=by
 induction xs generalizing ys i with
 |nil=>simp at hx
 |cons a as e=>cases ys with
  |nil=>simp at hy
  |cons b bs=>cases i with
   |zero=>simp at hx hy;subst hx;subst hy;simp[AV.owns]
   |succ i=>simp at hx hy;simp only[AV.owns];exact(e hx hy).trans (jZ _ _)
theorem DV.qbd{x v:DV}(h:x.fit v):DV.fits x.cells v.cells:=by
 cases x<;>simp only[DV.fit]at h
 case agg cs=>obtain⟨ds,rfl,e⟩:=h;exact e
 case sl g xs=>obtain⟨g',ys,rfl,e,m⟩:=h;simp only[DV.cells,DV.fits];exact⟨_,_,rfl,by simp only[DV.fit];exact⟨_,_,rfl,e,m⟩,rfl⟩
 case tup cs=>obtain⟨ds,rfl,e⟩:=h;simp only[DV.cells,DV.fits];exact⟨_,_,rfl,by simp only[DV.fit];exact⟨_,rfl,e⟩,rfl⟩
 all_goals subst h;simp[DV.cells,DV.fits,DV.fit]
theorem DV.qdD{x v:DV}(h:x.fit v):DV.owns x.cells v.cells=x.own v:=by
 cases x<;>simp only[DV.fit]at h
 case agg cs=>obtain⟨ds,rfl,e⟩:=h;simp[DV.cells,DV.own]
 case sl g xs=>obtain⟨g',ys,rfl,e,m⟩:=h;simp[DV.cells,DV.owns]
 case tup cs=>obtain⟨ds,rfl,e⟩:=h;simp[DV.cells,DV.owns]
 all_goals subst h;simp[DV.cells,DV.owns]
theorem DV.qeJ{x v:DV}(h:x.fit v):v.isCell=x.isCell:=by
 cases x<;>simp only[DV.fit]at h
 case agg cs=>obtain⟨ds,rfl,e⟩:=h;rfl
 case sl g xs=>obtain⟨g',ys,rfl,e,m⟩:=h;rfl
 case tup cs=>obtain⟨ds,rfl,e⟩:=h;rfl
 all_goals subst h;rfl
variable{vs:aw}
theorem DV.qc7(h:DV.fits xs vs):vs.all DV.isCell=xs.all DV.isCell:=by
 induction xs generalizing vs with
 |nil=>simp only[DV.fits]at h;subst h;rfl
 |cons x xs m=>simp only[DV.fits]at h;obtain⟨v,r,rfl,e,g⟩:=h;simp[DV.qeJ e,m g]
theorem DV.qbE{x v:DV}(h:x.fit v):v.cells.length=x.cells.length:=(DV.qao (DV.qbd h)).symm
variable{v:AV}
theorem AV.qeJ{x:AV}(h:x.fit v):v.isCell=x.isCell:=by
 cases x<;>simp only[AV.fit]at h
 case d x=>obtain⟨y,rfl,e⟩:=h;exact DV.qeJ e
 case ep=>obtain⟨_,rfl,_⟩:=h;rfl
 case fn=>obtain⟨_,rfl,_⟩:=h;rfl
 case bsl=>obtain⟨_,rfl⟩:=h;rfl
 case ag=>obtain⟨_,rfl,_⟩:=h;rfl
 all_goals subst h;rfl
theorem AV.qc7{xs vs:aH}(h:AV.fits xs vs):vs.all AV.isCell=xs.all AV.isCell:=by
 induction xs generalizing vs with
 |nil=>simp only[AV.fits]at h;subst h;rfl
 |cons x xs e=>simp only[AV.fits]at h;obtain⟨v,r,rfl,g,m⟩:=h;simp[AV.qeJ g,e m]
theorem AV.qqv(h:DV.fits xs vs):AV.fits (xs.map .d) (vs.map .d):=by
 induction xs generalizing vs with
 |nil=>simp only[DV.fits]at h;subst h;simp[AV.fits]
 |cons x xs m=>simp only[DV.fits]at h;obtain⟨v,r,rfl,e,g⟩:=h;simp only[bF,AV.fits];exact⟨_,_,rfl,by simp only[AV.fit];exact⟨_,rfl,e⟩,m g⟩
theorem AV.qqu:AV.owns (xs.map .d) (vs.map .d)=DV.owns xs vs:=by
 induction xs generalizing vs with
 |nil=>simp[AV.owns,DV.owns]
 |cons x xs e=>cases vs<;>simp[AV.owns,DV.owns,AV.own,e]
theorem AV.qfz{x:AV}(h:x.fit v):AV.fits [x] [v]:=by simp only[AV.fits];exact⟨_,_,rfl,h,rfl⟩
theorem AV.qbd{x:AV}(h:x.fit v):AV.fits x.cells v.cells:=by
 have m:=h;cases x<;>simp only[AV.fit]at h
 case d x=>
  obtain⟨y,rfl,e⟩:=h;cases x<;>simp only[DV.fit]at e
  case agg cs=>obtain⟨ds,rfl,e⟩:=e;exact AV.qqv e
  case sl g xs=>obtain⟨g',ys,rfl,q,r⟩:=e;exact AV.qfz m
  case tup cs=>obtain⟨ds,rfl,e⟩:=e;exact AV.qfz m
  all_goals subst e;exact AV.qfz m
 case ep=>obtain⟨_,rfl,_⟩:=h;exact AV.qfz m
 case fn=>obtain⟨_,rfl,_⟩:=h;exact AV.qfz m
 case bsl=>obtain⟨_,rfl⟩:=h;exact AV.qfz m
 case ag t cs=>
  obtain⟨_,rfl,e,_⟩:=h;cases t with
  |false=>exact e
  |true=>exact AV.qfz m
 all_goals subst h;exact AV.qfz m
theorem AV.qdD{x:AV}(h:x.fit v):AV.owns x.cells v.cells=x.own v:=by
 cases x<;>simp only[AV.fit]at h
 case d x=>
  obtain⟨y,rfl,e⟩:=h;cases x<;>simp only[DV.fit]at e
  case agg cs=>obtain⟨ds,rfl,e⟩:=e;simp[AV.cells,AV.own,DV.own,AV.qqu]
  case sl g xs=>obtain⟨g',ys,rfl,q,r⟩:=e;simp[AV.cells,AV.owns]
  case tup cs=>obtain⟨ds,rfl,e⟩:=e;simp[AV.cells,AV.owns]
  all_goals subst e;simp[AV.cells,AV.owns]
 case ep=>obtain⟨_,rfl,_⟩:=h;simp[AV.cells,AV.owns]
 case fn=>obtain⟨_,rfl,_⟩:=h;simp[AV.cells,AV.owns]
 case bsl=>obtain⟨_,rfl⟩:=h;simp[AV.cells,AV.owns]
 case ag t cs=>
  obtain⟨_,rfl,e,m⟩:=h;cases t with
  |false=>simp[AV.cells,AV.own,m]
  |true=>simp[AV.cells,AV.owns]
 all_goals subst h;simp[AV.cells,AV.owns]
theorem AV.qbE{x:AV}(h:x.fit v):v.cells.length=x.cells.length:=(AV.qao (AV.qbd h)).symm
mutual
theorem AV.qc8:∀(x v:AV),x.fit v->x.clr.fit v
 | .d x,v,h=>by
  simp only[AV.fit,AV.clr]at h⊢
  obtain⟨y,rfl,e⟩:=h;exact⟨y,rfl,DV.qc8 _ _ e⟩
 | .ep cs,v,h=>by
  simp only[AV.fit,AV.clr]at h⊢
  obtain⟨ds,rfl,e⟩:=h;exact⟨ds,rfl,DV.qbD _ _ e⟩
 | .fn f cap,v,h=>by
  simp only[AV.fit,AV.clr]at h⊢
  obtain⟨ds,rfl,e,_⟩:=h;obtain⟨g,m⟩:=AV.qbD cap ds e;exact⟨ds,rfl,g,m⟩
 | .ptr i o,v,h=>by simpa only[AV.clr]using h
 | .nilp,v,h=>by simpa only[AV.clr]using h
 | .bsl id a i sz n,v,h=>by simpa only[AV.clr]using h
 | .tsl a i sz n,v,h=>by simpa only[AV.clr]using h
 | .ag t cap,v,h=>by
  simp only[AV.fit,AV.clr]at h⊢
  obtain⟨ds,rfl,e,_⟩:=h;obtain⟨g,m⟩:=AV.qbD cap ds e;exact⟨ds,rfl,g,m⟩
 | .und,v,h=>by simpa only[AV.clr]using h
theorem AV.qbD:∀(xs vs:aH),AV.fits xs vs->AV.fits (AV.clrs xs) vs/\AV.owns (AV.clrs xs) vs=[]
 | [],vs,h=>by simp only[AV.fits,AV.clrs,AV.owns]at h⊢;exact⟨h,trivial⟩
 |x::xs,vs,h=>by
  simp only[AV.fits,AV.clrs]at h⊢
  obtain⟨v,vs,rfl,e,m⟩:=h;obtain⟨q,g⟩:=AV.qbD xs vs m;refine⟨⟨v,vs,rfl,AV.qc8 x v e,q⟩,?_⟩;simp only[AV.owns,g,cR];cases x<;>cases v<;>simp[AV.clr,AV.own,DV.qbM,DV.qfy]
end
theorem AV.qbM(x v:AV):x.clr.own v=[]:=by cases x<;>cases v<;>simp[AV.clr,AV.own,DV.qbM,DV.qfy]
mutual
theorem AV.qlX(m:Nat):∀(x v:AV),x.fit v->v.safe m=x.safe m
 | .d x,v,h=>by simp only[AV.fit]at h;obtain⟨y,rfl,_⟩:=h;unfold AV.safe;rfl
 | .ep cs,v,h=>by simp only[AV.fit]at h;obtain⟨y,rfl,_⟩:=h;unfold AV.safe;rfl
 | .fn f cap,v,h=>by simp only[AV.fit]at h;obtain⟨y,rfl,e,_⟩:=h;rw[AV.safe,AV.safe];exact AV.qnQ m cap y e
 | .ptr i o,v,h=>by simp only[AV.fit]at h;subst h;rfl
 | .nilp,v,h=>by simp only[AV.fit]at h;subst h;rfl
 | .bsl id a i sz n,v,h=>by simp only[AV.fit]at h;obtain⟨_,rfl⟩:=h;unfold AV.safe;rfl
 | .tsl a i sz n,v,h=>by simp only[AV.fit]at h;subst h;rfl
 | .ag t cap,v,h=>by simp only[AV.fit]at h;obtain⟨y,rfl,e,_⟩:=h;rw[AV.safe,AV.safe];exact AV.qnQ m cap y e
 | .und,v,h=>by simp only[AV.fit]at h;subst h;rfl
theorem AV.qnQ(m:Nat):∀(xs vs:aH),AV.fits xs vs->AV.safe.safes m vs=AV.safe.safes m xs
 | [],vs,h=>by simp only[AV.fits]at h;subst h;rfl
 |x::xs,vs,h=>by simp only[AV.fits]at h;obtain⟨v,vs,rfl,e,g⟩:=h;rw[AV.safe.safes,AV.safe.safes,AV.qlX m x v e,AV.qnQ m xs vs g]
end
mutual
theorem DV.qiT:∀x:DV,x.clr.clr=x.clr
 | .sl g xs=>by simp only[DV.clr,DV.qcw xs]
 | .agg cs=>by simp only[DV.clr,DV.qcw cs]
 | .tup cs=>by simp only[DV.clr,DV.qcw cs]
 | .int k n=>by simp only[DV.clr]
 | .bool b=>by simp only[DV.clr]
 | .str s=>by simp only[DV.clr]
theorem DV.qcw:∀l:aw,DV.clrs (DV.clrs l)=DV.clrs l
 | []=>by simp only[DV.clrs]
 |x::xs=>by simp only[DV.clrs,DV.qiT x,DV.qcw xs]
end
mutual
theorem AV.qiT:∀x:AV,x.clr.clr=x.clr
 | .d x=>by simp only[AV.clr,DV.qiT]
 | .ep cs=>by simp only[AV.clr,DV.qcw]
 | .fn f cap=>by simp only[AV.clr,AV.qcw cap]
 | .ptr i o=>by simp only[AV.clr]
 | .nilp=>by simp only[AV.clr]
 | .bsl id a i sz n=>by simp only[AV.clr]
 | .tsl a i sz n=>by simp only[AV.clr]
 | .ag t cap=>by simp only[AV.clr,AV.qcw cap]
 | .und=>by simp only[AV.clr]
theorem AV.qcw:∀l:aH,AV.clrs (AV.clrs l)=AV.clrs l
 | []=>by simp only[AV.clrs]
 |x::xs=>by simp only[AV.clrs,AV.qiT x,AV.qcw xs]
end
mutual
theorem AV.qbe:∀(x:AV),x.clr.fit x
 | .d x=>by simp only[AV.fit,AV.clr];exact⟨_,rfl,DV.qbe x⟩
 | .ep cs=>by simp only[AV.fit,AV.clr];exact⟨_,rfl,DV.qcv _⟩
 | .fn f cap=>by simp only[AV.fit,AV.clr];exact⟨_,rfl,AV.qcv cap,(AV.qnR cap)⟩
 | .ptr i o=>by simp[AV.fit,AV.clr]
 | .nilp=>by simp[AV.fit,AV.clr]
 | .bsl id a i sz n=>by simp[AV.fit,AV.clr]
 | .tsl a i sz n=>by simp[AV.fit,AV.clr]
 | .ag t cap=>by simp only[AV.fit,AV.clr];exact⟨_,rfl,AV.qcv cap,(AV.qnR cap)⟩
 | .und=>by simp[AV.fit,AV.clr]
theorem AV.qcv:∀(xs:aH),AV.fits (AV.clrs xs) xs
 | []=>by simp[AV.fits,AV.clrs]
 |x::xs=>by simp only[AV.fits,AV.clrs];exact⟨_,_,rfl,AV.qbe x,AV.qcv xs⟩
theorem AV.qnR:∀(xs:aH),AV.owns (AV.clrs xs) xs=[]
 | []=>by simp[AV.owns,AV.clrs]
 |x::xs=>by simp only[AV.owns,AV.clrs];rw[AV.qbM,AV.qnR xs];rfl
end
theorem DV.qLb(v:DV):v.cn1.fit v:=by
 unfold DV.cn1;split
 ·simp only[DV.fit,DV.fits];exact⟨_,_,rfl,rfl,.inr ⟨rfl,.inl ⟨rfl,.inl rfl⟩⟩⟩
 ·exact DV.qbe _
theorem DV.qLa(v w:DV):v.cn1.own w=[]:=by
 unfold DV.cn1;split
 ·cases w<;>simp[DV.own,DV.owns]
 ·exact DV.qbM _ _
theorem DV.qj7:∀l:aw,DV.fits (l.map DV.cn1) l
 | []=>by simp[DV.fits]
 |x::xs=>by simp only[bF,DV.fits];exact⟨_,_,rfl,DV.qLb x,DV.qj7 xs⟩
theorem DV.qih:∀l m:aw,DV.owns (l.map DV.cn1) m=[]
 | [],m=>by simp[DV.owns]
 |x::xs,m=>by cases m<;>simp[DV.owns,DV.qLa,DV.qih xs]
theorem DV.qvb(v:DV):v.cn.fit v:=by
 unfold DV.cn;split
 ·simp only[DV.fit];exact⟨_,rfl,DV.qj7 _⟩
 ·exact DV.qLb _
theorem DV.qK9(v w:DV):v.cn.own w=[]:=by
 unfold DV.cn;split
 ·cases w<;>simp[DV.own,DV.qih]
 ·exact DV.qLa _ _
theorem DV.qdE(e:DV):e.clr.cells=DV.clrs e.cells:=by cases e<;>simp[DV.clr,DV.cells,DV.clrs]
theorem DV.qcx(l:aw):(DV.clrs l).length=l.length:=by simp[DV.qay]
theorem AV.qcx(l:aH):(AV.clrs l).length=l.length:=by simp[AV.qay]
def gQ(rx rv:aI):Prop:=∀t x,lk rx t=some x->∃v,lk rv t=some v/\x.clr.fit v
variable{x:VX}{rx rv:aI}
theorem pB(h:gQ rx rv){a:AV}(hx:x.get rx=some a):∃v,x.get rv=some v/\a.clr.fit v:=by
 cases x with
 |t n=>exact h n a hx
 |c v=>simp[VX.get]at hx⊢;subst hx;exact AV.qbe _
theorem p7(h:gQ rx rv){a:DV}(hx:x.get rx=some (.d a)):∃v,x.get rv=some (.d v)/\a.clr.fit v:=by obtain⟨v,m,e⟩:=pB h hx;simp only[AV.clr,AV.fit]at e;obtain⟨y,rfl,g⟩:=e;exact⟨y,m,g⟩
theorem l5(h:gQ rx rv){k:IntKind}{n:Int}(hx:x.get rx=some (.d (.int k n))):x.get rv=some (.d (.int k n)):=by obtain⟨v,g,e⟩:=p7 h hx;simp only[DV.clr,DV.fit]at e;subst e;exact g
theorem Ev(h:gQ rx rv){b:Bool}(hx:x.get rx=some (au b)):x.get rv=some (au b):=by obtain⟨v,g,e⟩:=p7 h hx;simp only[DV.clr,DV.fit]at e;subst e;exact g
theorem EL(h:gQ rx rv){b:ByteArray}(hx:x.get rx=some (.d (.str b))):x.get rv=some (.d (.str b)):=by obtain⟨v,g,e⟩:=p7 h hx;simp only[DV.clr,DV.fit]at e;subst e;exact g
variable{l:aw}
theorem Ce(h:gQ rx rv){g:Tag}(hx:x.get rx=some (.d (.sl g l))):∃g' ys,x.get rv=some (.d (.sl g' ys))/\DV.fits (DV.clrs l) ys:=by obtain⟨v,q,e⟩:=p7 h hx;simp only[DV.clr,DV.fit]at e;obtain⟨g',ys,rfl,m,_⟩:=e;exact⟨g',ys,q,m⟩
theorem Kg(h:gQ rx rv)(hx:x.get rx=some (.d (.agg l))):∃ys,x.get rv=some (.d (.agg ys))/\DV.fits (DV.clrs l) ys:=by obtain⟨v,m,e⟩:=p7 h hx;simp only[DV.clr,DV.fit]at e;obtain⟨ys,rfl,g⟩:=e;exact⟨ys,m,g⟩
theorem EE(h:gQ rx rv){o:Nat}(hx:x.get rx=some (.ptr i o)):x.get rv=some (.ptr i o):=by obtain⟨v,g,e⟩:=pB h hx;simp only[AV.clr,AV.fit]at e;subst e;exact g
variable{n:Nat}
theorem ME(h:gQ rx rv){a:Bool}{s:Nat}(hx:x.get rx=some (.tsl a i s n)):x.get rv=some (.tsl a i s n):=by obtain⟨v,g,e⟩:=pB h hx;simp only[AV.clr,AV.fit]at e;subst e;exact g
theorem JI(h:gQ rx rv){id:Id}{a:Bool}{s:Nat}(hx:x.get rx=some (.bsl id a i s n)):∃e,x.get rv=some (.bsl e a i s n):=by obtain⟨v,m,g⟩:=pB h hx;simp only[AV.clr,AV.fit]at g;obtain⟨e,rfl⟩:=g;exact⟨e,m⟩
theorem H5(h:gQ rx rv)(hx:x.get rx=some (.ep l)):∃ys,x.get rv=some (.ep ys)/\DV.fits (DV.clrs l) ys:=by obtain⟨v,m,e⟩:=pB h hx;simp only[AV.clr,AV.fit]at e;obtain⟨ys,rfl,g⟩:=e;exact⟨ys,m,g⟩
theorem qOr{op:BinOp}{a b c a' b':DV}(e:a.clr.fit a')(g:b.clr.fit b')(h:nC op a b=some c):nC op a' b'=some c:=by cases a<;>cases b<;>simp only[nC]at h<;>(first|(simp at h;done)|skip)<;>simp only[DV.clr,DV.fit]at e g<;>subst e<;>subst g<;>exact h
theorem Pp:∀(ks:ae) (a b a' b':aw),DV.fits (DV.clrs a) a'->DV.fits (DV.clrs b) b'->∀r,eU ks a b=some r->eU ks a' b'=some r:=by
 intro ks a b
 fun_induction eU ks a b<;>intro a' b' m q r h<;>(first|(simp at h;done)|skip)
 all_goals simp only[DV.clrs,DV.fits]at m q
 case case1=>subst m;subst q;exact h
 all_goals
  obtain⟨v,vs,rfl,u,w⟩:=m;obtain⟨v',D,rfl,g,e⟩:=q;simp only[DV.clr,DV.fit]at u g;subst u;subst g
  simp_all[eU]
  try (obtain⟨c,G,H⟩:=h;rename_i C;rcases c with c|c;(exact .inl ((C _ _ w e).1 c));(exact .inr ((C _ _ w e).2 c)))
theorem qCA:∀(a a':aw),DV.fits (DV.clrs a) a'->∀r,bytesOf a=some r->bytesOf a'=some r:=by
 intro a
 fun_induction bytesOf a<;>intro a' e r h<;>(first|(simp at h;done)|skip)
 all_goals simp only[DV.clrs,DV.fits]at e
 case case1=>subst e;exact h
 all_goals
  obtain⟨v,vs,rfl,g,w⟩:=e;simp only[DV.clr,DV.fit]at g;subst g;rename_i u;obtain⟨q,m,rfl⟩:=aN.1 h;simp[bytesOf,u _ w _ m]
theorem I_(h:gQ rx rv):∀{xs:cg} {as:aH},fM rx xs=some as->∃vs,fM rv xs=some vs/\AV.fits (AV.clrs as) vs
 | [],as,hx=>by simp[fM]at hx;subst hx;exact⟨[],rfl,by simp[AV.clrs,AV.fits]⟩
 |x::xs,as,hx=>by simp only[fM]at hx;obtain⟨a,m,w⟩:=aK.1 hx;obtain⟨e,g,rfl⟩:=aN.1 w;obtain⟨v,r,q⟩:=pB h m;obtain⟨vs,C,u⟩:=I_ h g;exact⟨v::vs,by simp[fM,r,C],by simp only[AV.clrs,AV.fits];exact⟨_,_,rfl,q,u⟩⟩
theorem tm(h:gQ rx rv){x:nL}{a:a8}(hx:eD rx x=some a):∃v,eD rv x=some v/\v.bind oH=a.bind oH/\(v=none↔a=none):=by
 cases x with
 |none=>simp[eD]at hx;subst hx;exact⟨none,rfl,rfl,Iff.rfl⟩
 |some x=>
  simp only[eD]at hx⊢
  obtain⟨a',g,rfl⟩:=aN.1 hx;obtain⟨v,m,e⟩:=pB h g;refine⟨some v,by simp[m],?_,by simp⟩;simp only[bO];cases a' with
  |d w=>
   cases w<;>simp only[AV.clr,DV.clr,AV.fit,DV.fit]at e
   case int k n=>obtain⟨y,rfl,rfl⟩:=e;rfl
   case sl=>obtain⟨y,rfl,_,_,rfl,_⟩:=e;rfl
   case agg=>obtain⟨y,rfl,_,rfl,_⟩:=e;rfl
   case tup=>obtain⟨y,rfl,_,rfl,_⟩:=e;rfl
   all_goals obtain⟨y,rfl,rfl⟩:=e;rfl
  |ep=>simp only[AV.clr,AV.fit]at e;obtain⟨_,rfl,_⟩:=e;rfl
  |fn=>simp only[AV.clr,AV.fit]at e;obtain⟨_,rfl,_⟩:=e;rfl
  |bsl=>simp only[AV.clr,AV.fit]at e;obtain⟨_,rfl⟩:=e;rfl
  |ag=>simp only[AV.clr,AV.fit]at e;obtain⟨_,rfl,_⟩:=e;rfl
  |_=>simp only[AV.clr,AV.fit]at e;subst e;rfl
theorem Gb{a v:a8}(h:v.bind oH=a.bind oH)(h':v=none↔a=none)(n:Nat):gL n v=gL n a:=by
 cases a<;>cases v<;>simp at h h'
 ·rfl
 ·simp only[gL,h]
theorem Hc{a v:a8}(h:v.bind oH=a.bind oH)(h':v=none↔a=none)(n:Nat):gB n v=gB n a:=by
 cases a<;>cases v<;>simp at h h'
 ·rfl
 ·simp only[gB,h]
def VOp.gen:VOp->Bool
 | .nilCheck _| .bin _ _ _| .eqAgg _ _ _ _| .eqB _ _ _| .not _| .conv _ _| .index _ _| .indexAddr _ _ _ _| .fieldAddr _ _| .slice _ _ _ _ _| .makeFunc _ _| .len _ _| .max _ _| .fail=>true
 |_=>false
variable{sz:Nat}
theorem KR(h:DV.fits (DV.clrs xs) ys)(hx:xs.all (fun e=>decide (e.cells.length=sz))=true):ys.all (fun e=>decide (e.cells.length=sz))=true:=by
 simp only[cm,cA]at hx⊢
 intro e q;obtain⟨i,hi⟩:=jN.1 q;obtain⟨m,u⟩:=(DV.qbt _ _).1 h;rw[DV.qcx]at m;have g:i<xs.length:=by rw[m];exact(cW.1 hi).1
 have r:=u i (xs[i].clr) e (by simp[DV.qay,g]) hi;rw[DV.qbE r,DV.qdE,DV.qcx];exact hx _ (gY g)
theorem q2n(h:gQ rx rv){op:VOp}(hg:op.gen=true){a:AV}(q:bm rx op=some a):∃v,bm rv op=some v/\a.clr.fit v:=by
 cases op<;>simp only[VOp.gen]at hg<;>(first|(simp at hg;done)|skip)
 case nilCheck x=>
  simp only[bm]at q⊢
  split at q<;>(first|(simp at q;done)|skip)<;>rename_i r<;>simp at q<;>subst q
  ·rw[EE h r];exact⟨_,rfl,AV.qbe _⟩
  ·obtain⟨ys,w,u⟩:=H5 h r;rw[w]
   exact⟨_,rfl,by simp only[AV.clr,AV.fit];exact⟨_,rfl,u⟩⟩
  ·obtain⟨v,w,u⟩:=pB h r
   have Q:=u;simp only[AV.clr,AV.fit]at Q;obtain⟨c,rfl,_⟩:=Q
   rw[w];exact⟨_,rfl,u⟩
 case bin op x y=>
  simp only[bm]at q⊢
  split at q<;>(first|(simp at q;done)|skip)
  rename_i a1 R r w;obtain⟨c,u,rfl⟩:=aN.1 q;obtain⟨v1,C,D⟩:=p7 h r;obtain⟨v2,K,I⟩:=p7 h w;rw[C,K];simp only[qOr D I u,b7];exact⟨_,rfl,AV.qbe _⟩
 case eqAgg neg ks x y=>
  simp only[bm]at q⊢
  split at q<;>(first|(simp at q;done)|skip)
  rename_i a1 R r w;obtain⟨c,u,rfl⟩:=aN.1 q;obtain⟨v1,C,D⟩:=Kg h r;obtain⟨v2,K,I⟩:=Kg h w;rw[C,K];simp only[Pp _ _ _ _ _ D I _ u,b7];exact⟨_,rfl,AV.qbe _⟩
 case eqB neg x y=>
  simp only[bm]at q⊢
  split at q<;>(first|(simp at q;done)|skip)
  rename_i a1 R r w;simp at q;subst q
  rw[Ev h r,Ev h w];exact⟨_,rfl,AV.qbe _⟩
 case not x=>
  simp only[bm]at q⊢
  split at q<;>(first|(simp at q;done)|skip)
  rename_i R r;simp at q;subst q
  rw[Ev h r];exact⟨_,rfl,AV.qbe _⟩
 case conv c x=>
  cases c with
  |kind k=>
   simp only[bm]at q⊢
   split at q<;>(first|(simp at q;done)|skip)
   rename_i k1 n1 r;simp at q;subst q
   rw[l5 h r];exact⟨_,rfl,AV.qbe _⟩
  |rune=>
   simp only[bm]at q⊢
   split at q<;>(first|(simp at q;done)|skip)
   rename_i k1 n1 r;simp at q;subst q
   rw[l5 h r];exact⟨_,rfl,AV.qbe _⟩
  |bytes=>
   simp only[bm]at q⊢
   split at q<;>(first|(simp at q;done)|skip)
   rename_i g1 l1 r;obtain⟨c,u,rfl⟩:=aN.1 q;obtain⟨g',ys,C,D⟩:=Ce h r;rw[C];simp only[qCA _ _ D _ u,b7];exact⟨_,rfl,AV.qbe _⟩
 case index x i=>
  simp only[bm]at q⊢
  split at q<;>(first|(simp at q;done)|skip)
  rename_i s k n r w;rw[EL h r,l5 h w];simp only;split at q
  ·rename_i u
   rw[ay u];obtain⟨b,C,rfl⟩:=aN.1 q;rw[C];exact⟨_,rfl,AV.qbe _⟩
  ·simp at q
 case indexAddr sz arr x i=>
  cases arr with
  |none=>
   simp only[bm]at q⊢
   split at q
   ·rename_i g l k n r w
    obtain⟨g',ys,C,D⟩:=Ce h r;rw[C,l5 h w];simp only;split at q
    ·rename_i u
     rw[ay u];obtain⟨e,K,I⟩:=aK.1 q;split at I
     ·rename_i O
      simp at I;subst I
      obtain⟨e',P,G⟩:=DV.qbZ D (x:=e.clr) (i:=n.toNat) (by simp[DV.qay,K]);have H:e'.cells.length=sz:=by rw[DV.qbE G,DV.qdE,DV.qcx];exact O.1
      rw[P];simp only[bO,H,O.2,d0,md,xu,if_true];have J:=DV.qbd G;rw[DV.qdE]at J;exact⟨_,rfl,by simp only[AV.clr,AV.fit];exact⟨_,rfl,J⟩⟩
     ·simp at I
    ·simp at q
   ·rename_i id ag b s' m k n r w
    obtain⟨x1,C⟩:=JI h r;rw[C,l5 h w];simp only;split at q
    ·rename_i u
     rw[ay u];simp at q;subst q
     exact⟨_,rfl,AV.qbe _⟩
    ·simp at q
   ·rename_i ag b s' m k n r w
    rw[ME h r,l5 h w];simp only;split at q
    ·rename_i u
     rw[ay u];simp at q;subst q
     exact⟨_,rfl,AV.qbe _⟩
    ·simp at q
   ·simp at q
  |some m=>
   simp only[bm]at q⊢
   split at q
   ·rename_i b o k n r w
    rw[EE h r,l5 h w];simp only;split at q
    ·rename_i u
     rw[ay u];simp at q;subst q
     exact⟨_,rfl,AV.qbe _⟩
    ·simp at q
   ·rename_i l k n r w
    obtain⟨ys,C,D⟩:=H5 h r;rw[C,l5 h w];simp only;have M:=DV.qao D;rw[DV.qcx]at M;split at q
    ·rename_i u
     rw[ay (by omega)];simp at q;subst q
     refine⟨_,rfl,?_⟩;simp only[AV.clr,AV.fit];have:=DV.qbu D (n.toNat*sz);rw[DV.qay,<-List.map_drop,<-DV.qay]at this;exact⟨_,rfl,this⟩
    ·simp at q
   ·simp at q
 case fieldAddr off x=>
  simp only[bm]at q⊢
  split at q
  ·rename_i b o r
   rw[EE h r];simp at q;subst q
   exact⟨_,rfl,AV.qbe _⟩
  ·rename_i l r
   obtain⟨ys,C,D⟩:=H5 h r;rw[C];simp only;have M:=DV.qao D;rw[DV.qcx]at M;split at q
   ·rename_i u
    rw[ay (by omega)];simp at q;subst q
    refine⟨_,rfl,?_⟩;simp only[AV.clr,AV.fit];have:=DV.qbu D off;rw[DV.qay,<-List.map_drop,<-DV.qay]at this;exact⟨_,rfl,this⟩
   ·simp at q
  ·simp at q
 case slice str sz x lo hi=>
  cases str with
  |true=>
   simp only[bm]at q⊢
   split at q<;>(first|(simp at q;done)|skip)
   rename_i s l' h' r w u;obtain⟨vl,C,D,K⟩:=tm h w;obtain⟨vh,I,O,P⟩:=tm h u;rw[EL h r,C,I];simp only;rw[Gb O P];obtain⟨hh,G,H⟩:=aK.1 q;rw[G];simp only[bO];rw[Hc D K];rw[H];obtain⟨ll,_,rfl⟩:=aN.1 H;exact⟨_,rfl,AV.qbe _⟩
  |false=>
   simp only[bm]at q⊢
   split at q<;>(first|(simp at q;done)|skip)
   rename_i g xs l' h' r w u;obtain⟨vl,C,D,K⟩:=tm h w;obtain⟨vh,I,O,P⟩:=tm h u;obtain⟨g',ys,J,N⟩:=Ce h r;rw[J,C,I];simp only;have M:=DV.qao N;rw[DV.qcx]at M;split at q
   ·rename_i Z
    rw[ay (KR N Z),Gb O P];obtain⟨hh,G,H⟩:=aK.1 q;rw[<-M,G];simp only[bO];rw[Hc D K];obtain⟨ll,S,rfl⟩:=aN.1 H;rw[S];refine⟨_,rfl,?_⟩;simp only[AV.clr,DV.clr,AV.fit,DV.fit];refine⟨_,rfl,_,_,rfl,?_,.inl rfl⟩;have:=DV.qbu (DV.qbo N hh) ll;rw[DV.qay,<-List.map_take,<-List.map_drop,<-DV.qay]at this;exact this
   ·simp at q
 case makeFunc f cs=>
  simp only[bm]at q⊢
  obtain⟨vs,r,rfl⟩:=aN.1 q;obtain⟨ws,w,u⟩:=I_ h r;rw[w];refine⟨_,rfl,?_⟩;simp only[AV.clr,AV.fit];have:=AV.qbD _ _ u;refine⟨_,rfl,u,?_⟩;have Y:∀l:aH,AV.clrs (AV.clrs l)=AV.clrs l:=by
   intro l;simp only[AV.qay,eI]
   congr 1
   funext x
   exact AV.qiT x
  rw[<-Y];exact this.2
 case len str x=>
  cases str with
  |true=>
   simp only[bm]at q⊢
   split at q<;>(first|(simp at q;done)|skip)
   rename_i s r;simp at q;subst q
   rw[EL h r];exact⟨_,rfl,AV.qbe _⟩
  |false=>
   simp only[bm]at q⊢
   split at q<;>(first|(simp at q;done)|skip)
   ·rename_i g xs r
    simp at q;subst q
    obtain⟨g',ys,C,D⟩:=Ce h r;have M:=DV.qao D;rw[DV.qcx]at M;rw[C,M];exact⟨_,rfl,AV.qbe _⟩
   ·rename_i r
    simp at q;subst q
    obtain⟨x1,C⟩:=JI h r;rw[C];exact⟨_,rfl,AV.qbe _⟩
   ·rename_i r
    simp at q;subst q
    rw[ME h r];exact⟨_,rfl,AV.qbe _⟩
 case max x y=>
  simp only[bm]at q⊢
  split at q<;>(first|(simp at q;done)|skip)
  rename_i k a1 k' R r w;rw[l5 h r,l5 h w];simp only;split at q
  ·rename_i u
   rw[ay u];simp at q;subst q
   exact⟨_,rfl,AV.qbe _⟩
  ·simp at q
 case fail=>simp[bm]at q
open Classical
inductive Loc where
 |reg (t:Nat)
 |box (i:Nat)
def bH(B Bv:az)(i:Nat):eP:=
 match cd B i,cd Bv i with
 |some cs,some ds=>AV.owns cs ds
 |_,_=>[]
def br(rx rv:aI)(t:Nat):eP:=
 match lk rx t,lk rv t with
 |some x,some v=>x.own v
 |_,_=>[]
def aU(rx:aI)(B:az)(rv:aI)(Bv:az):Loc->eP
 | .reg t=>br rx rv t
 | .box i=>bH B Bv i
def Fut(p:Id)(k:Nat)(a:Id):Prop:=∃q j,k<=j/\a=q++j::p
variable{a p:Id}{k k':Nat}
theorem Fut.le(h:k<=k')(g:Fut p k' a):Fut p k a:=by obtain⟨q,j,e,m⟩:=g;exact⟨q,j,eo h e,m⟩
theorem Fut.sub{c:Nat}(e:Fut ((c+i)::p) 0 a):Fut p (c+i) a:=by obtain⟨q,j,h,g⟩:=e;exact⟨q++[j],c+i,bN _,by rw[g];simp⟩
theorem Fut.qr3{c:Nat}(G:c+i<k)(m:Fut ((c+i)::p) 0 a):¬Fut p k a:=by
 obtain⟨q,j,w,r⟩:=m
 rintro⟨C,D,u,e⟩
 rw[r]at e;have h:q++j::(c+i)::p=(q++[j])++((c+i)::p):=by simp
 rw[h]at e;obtain⟨_,g⟩:=List.append_inj' e (by simp);simp at g;omega
theorem Fut.self(p:Id)(k:Nat):Fut p k (k::p):=⟨[],k,bN _,rfl⟩
theorem Fut.qr2(h:k<k'):¬Fut p k' (k::p):=by
 rintro⟨q,j,r,e⟩
 have g:k::p=[]++(k::p):=rfl;rw[g]at e;obtain⟨_,m⟩:=List.append_inj' e (by simp);simp at m;omega
structure Held(F Fu:Id->Prop)(A:Ids)(own:Loc->eP):Prop where
 nodup:∀ℓ,(own ℓ).Nodup
 apart:∀ℓ ℓ' a,a∈own ℓ->a∈own ℓ'->ℓ=ℓ'
 opn:∀ℓ a,a∈own ℓ->A a=true/\¬F a/\¬Fu a
 fr:∀a,F a->A a=true/\¬Fu a
variable{own':Loc->eP}{A A':Ids}{F Fu Fu':Id->Prop}
theorem Held.set{own:Loc->eP}(h:Held F Fu A own)(ℓ0:Loc)
 (e:∀ℓ,ℓ≠ℓ0->(own' ℓ).Sublist (own ℓ)) (D:(own' ℓ0).Nodup)
 (m:∀a,a∈own' ℓ0->A' a=true/\¬F a/\¬Fu' a/\∀ℓ,ℓ≠ℓ0->a∉own' ℓ)
 (K:∀ℓ,ℓ≠ℓ0->∀a,a∈own' ℓ->A' a=true) (J:∀a,F a->A' a=true) (w:∀a,Fu' a->Fu a):Held F Fu' A' own':=by
 refine⟨fun ℓ=> ?_,fun ℓ ℓ' a r u=> ?_,fun ℓ a r=> ?_,fun a r=>⟨J a r,fun H=>(h.fr a r).2 (w a H)⟩⟩
 ·by_cases g:ℓ=ℓ0
  ·subst g;exact D
  ·exact(h.nodup ℓ).sublist (e ℓ g)
 ·by_cases g:ℓ=ℓ0
  ·by_cases q:ℓ'=ℓ0
   ·rw[g,q]
   ·subst g
    exact absurd u ((m a r).2.2.2 ℓ' q)
  ·by_cases q:ℓ'=ℓ0
   ·subst q
    exact absurd r ((m a u).2.2.2 ℓ g)
   ·exact h.apart ℓ ℓ' a ((e ℓ g).subset r) ((e ℓ' q).subset u)
 ·by_cases g:ℓ=ℓ0
  ·subst g
   obtain⟨I,C,G,_⟩:=m a r;exact⟨I,C,G⟩
  ·obtain⟨_,C,G⟩:=h.opn ℓ a ((e ℓ g).subset r)
   exact⟨K ℓ g a r,C,fun H=>G (w a H)⟩
theorem Held.shrink{own:Loc->eP}(h:Held F Fu A own)
 (e:∀ℓ,(own' ℓ).Sublist (own ℓ)) (C:∀a,A a=true->(F a\/∃ℓ,a∈own' ℓ)->A' a=true) (m:∀a,Fu' a->Fu a):Held F Fu' A' own':=by
 refine⟨fun ℓ=>(h.nodup ℓ).sublist (e ℓ),fun ℓ ℓ' a g r=>h.apart ℓ ℓ' a ((e ℓ).subset g) ((e ℓ').subset r),fun ℓ a g=> ?_,fun a g=> ?_⟩
 ·obtain⟨q,u,D⟩:=h.opn ℓ a ((e ℓ).subset g)
  exact⟨C a q (.inr ⟨ℓ,g⟩),u,fun w=>D (m a w)⟩
 ·obtain⟨q,u⟩:=h.fr a g
  exact⟨C a q (.inl g),fun w=>u (m a w)⟩
def qbL(B Bv:az):Prop:=B.length=Bv.length/\∀i:Nat,(B[i]?=some none->Bv[i]?=some none)/\∀cs,B[i]?=some (some cs)->∃ds,Bv[i]?=some (some ds)/\AV.fits cs ds
structure Rel(A0:Ids)(T:ae)(F:Id->Prop)(p:Id)(k:Nat)(sx:XS)(sv:St):Prop where
 regs:∀t x,lk sx.r t=some x->∃v,lk sv.r t=some v/\x.fit v
 boxes:qbL sx.B sv.B
 held:Held F (Fut p k) sv.A (aU sx.r sx.B sv.r sv.B)
 nl:∀t,T.contains t=false->br sx.r sv.r t=[]
 no:∀t,lk sx.r t=none->lk sv.r t=none
 am:∀a,sv.A a=true->¬Fut p k a/\(A0 a=true\/Fut p 0 a)
variable{Bv:az}
theorem qbL.free{B:az}(h:qbL B Bv)(i:Nat):eO Bv i=eO B i:=by
 obtain⟨m,e⟩:=h;unfold eO;cases hb:B[i]? with
 |none=>
  have:Bv[i]?=none:=by have:=Dw.1 hb;exact jf (by omega)
  simp[this]
 |some o=>cases o with
  |none=>rw[(e i).1 hb]
  |some cs=>obtain⟨ds,g,_⟩:=(e i).2 cs hb;rw[g]
variable{cs:aH}
theorem lI{B:az}:cd B i=some cs↔B[i]?=some (some cs):=by
 unfold cd;split
 ·rename_i h;simp[h]
 ·rename_i h;constructor
  ·simp
  ·intro h';exact absurd h' (h cs)
theorem qbL.get{B:az}(h:qbL B Bv)(g:cd B i=some cs):∃ds,cd Bv i=some ds/\AV.fits cs ds:=by obtain⟨ds,e,m⟩:=(h.2 i).2 cs (lI.1 g);exact⟨ds,lI.2 e,m⟩
variable{ds:aH}
theorem qbL.set{B:az}(h:qbL B Bv)(i:Nat)(r:AV.fits cs ds):qbL (B.set i (some cs)) (Bv.set i (some ds)):=by
 refine⟨by simpa using h.1,fun j=> ?_⟩
 by_cases q:i=j
 ·subst q
  constructor
  ·intro h'
   rw[kx]at h';cases hb:B[i]?<;>simp[hb]at h'
  ·intro c h'
   rw[kx]at h'⊢
   have e:i<B.length:=by
    rcases mh i B.length with m|m
    ·exact m
    ·rw[jf m]at h';simp at h'
   have g:i<Bv.length:=by rw[<-h.1];exact e
   simp[e]at h';subst h'
   simp[g,r]
 ·rw[jl q,jl q];exact h.2 j
theorem qbL.take{B:az}(h:qbL B Bv)(n:Nat):qbL (B.take n) (Bv.take n):=by
 refine⟨by simp[h.1],fun i=> ?_⟩;simp only[qx];split
 ·exact h.2 i
 ·simp
theorem qbL.more{B:az}(h:qbL B Bv)(n:Nat):qbL (B++List.replicate n none) (Bv++List.replicate n none):=by
 refine⟨by simp[h.1],fun i=> ?_⟩
 by_cases hi:i<B.length
 ·rw[ed hi,ed (by rw[<-h.1];exact hi)];exact h.2 i
 ·rw[dB (by omega),dB (by rw[<-h.1];omega),h.1]
  constructor
  ·exact id
  ·intro cs hc
   rw[FG]at hc;split at hc<;>simp at hc
theorem BH{B:az}(h:i<B.length):cd (B.set i (some cs)) i=some cs:=by rw[lI];simp[h]
variable{j:Nat}
theorem Gu{B:az}{c:Option aH}(h:i≠j):cd (B.set i c) j=cd B j:=by unfold cd;rw[jl h]
theorem ZS{B:az}(h:i<B.length)(h':i<Bv.length):bH (B.set i (some cs)) (Bv.set i (some ds)) i=AV.owns cs ds:=by unfold bH;rw[BH h,BH h']
theorem Sm{B:az}{c d:Option aH}(h:i≠j):bH (B.set i c) (Bv.set i d) j=bH B Bv j:=by unfold bH;rw[Gu h,Gu h]
theorem Ju{B:az}{c:Option aH}(h:i≠j):bH (B.set i c) Bv j=bH B Bv j:=by unfold bH;rw[Gu h]
theorem w_{B:az}:cd (B.take n) i=if i<n then cd B i else none:=by unfold cd;simp only[qx];split<;>simp_all
theorem qKC{B:az}:cd (B++List.replicate n none) i=cd B i:=by
 unfold cd
 by_cases hi:i<B.length
 ·rw[ed hi]
 ·rw[dB (by omega),FG,jf (by omega:B.length<=i)]
  split<;>simp_all
section
variable {A0:Ids} {T:ae} {F:Id->Prop} {p:Id} {k:Nat} {sx:XS} {sv:St}
theorem Rel.er(h:Rel A0 T F p k sx sv):gQ sx.r sv.r:=fun t x hx=>by obtain⟨v,e,g⟩:=h.regs t x hx;exact⟨v,e,AV.qc8 _ _ g⟩
theorem Rel.get(h:Rel A0 T F p k sx sv){a:AV}(hx:bj sx.r x=some a):∃v,x.get sv.r=some v/\a.fit v:=by
 cases x with
 |t n=>exact h.regs n a hx
 |c v=>
  cases v with
  |d v=>simp[bj,VX.get]at hx⊢;subst hx;simp only[AV.fit];exact⟨_,rfl,DV.qvb v⟩
  |_=>simp[bj,VX.get]at hx⊢;subst hx;exact AV.qbe _
def cw(rx rv:aI)(x:VX):eP:=
 match bj rx x,x.get rv with
 |some a,some v=>a.own v
 |_,_=>[]
theorem tE(rx rv:aI)(n:Nat):cw rx rv (.t n)=br rx rv n:=rfl
theorem D6(rx rv:aI)(v:AV):cw rx rv (.c v)=[]:=by
 cases v with
 |d v=>simp[cw,bj,VX.get,AV.own,DV.qK9]
 |_=>simp only[cw,bj,VX.get,AV.qbM]
theorem eX{a:AV}(e:bj rx x=some a)(g:x.get rv=some v):cw rx rv x=a.own v:=by simp[cw,e,g]
theorem Rel.qeF(h:Rel A0 T F p k sx sv)(e:a∈cw sx.r sv.r x):∃n,x= .t n/\T.contains n=true/\a∈br sx.r sv.r n:=by
 cases x with
 |c v=>rw[D6]at e;simp at e
 |t n=>
  rw[tE]at e;refine⟨n,rfl,?_,e⟩;cases hn:T.contains n with
  |true=>rfl
  |false=>rw[h.nl n hn]at e;simp at e
theorem ZN(r:aI)(x:VX)(t:Nat):lk (ek T r x) t=if x= .t t/\T.contains t=true then(lk r t).map AV.clr else lk r t:=by
 cases x with
 |c v=>simp[ek]
 |t n=>
  simp only[ek]
  by_cases q:T.contains n=true
  ·simp only[q,if_true]
   cases hl:lk r n with
   |none=>
    by_cases e:n=t
    ·subst e;simp[hl]
    ·simp[e]
   |some v=>
    simp only[lk_cons']
    by_cases e:t=n
    ·subst e;have g:t∈T:=by simpa using q
     simp[g,hl]
    ·have:¬n=t:=fun h=>e h.symm
     simp[e,this]
  ·have g:T.contains n=false:=by simpa using q
   simp only[g,bh,if_false]
   by_cases e:n=t
   ·subst e;have m:¬n∈T:=by simpa using q
    simp[m]
   ·simp[e]
where lk_cons' {t:Nat} {v:AV} {r:aI} {n:Nat}:lk ((t,v)::r) n=if n=t then some v else lk r n:=rfl
theorem Dl:∀(xs:cg) (r:aI) (t:Nat),lk (du T r xs) t=if VX.t t∈xs/\T.contains t=true then(lk r t).map AV.clr else lk r t
 | [],r,t=>by simp[du]
 |x::xs,r,t=>by
  simp only[du];rw[Dl xs,ZN]
  by_cases q:T.contains t=true
  ·have e:t∈T:=by simpa using q
   by_cases m:VX.t t∈xs
   ·by_cases g:x= .t t
    ·subst g
     simp only[m,q,xu,if_true,cC,true_or,Hl]
     congr 1;funext v;exact AV.qiT v
    ·have u:VX.t t≠x:=fun h=>g h.symm
     simp[m,g,e,u]
   ·by_cases g:x= .t t
    ·subst g;simp[m,e]
    ·have u:VX.t t≠x:=fun h=>g h.symm
     simp[m,g,u]
  ·have e:¬t∈T:=by simpa using q
   simp[e]
theorem l8(xs:cg)(r rv:aI)(t:Nat):br (du T r xs) rv t=if VX.t t∈xs/\T.contains t=true then []else br r rv t:=by
 unfold br;rw[Dl]
 by_cases hc:VX.t t∈xs/\T.contains t=true
 ·rw[ay hc,ay hc]
  cases lk r t with
  |none=>rfl
  |some v=>cases lk rv t with
   |none=>rfl
   |some u=>simp[AV.qbM]
 ·rw[aD hc,aD hc]
theorem Rel.drops(h:Rel A0 T F p k sx sv)(xs:cg):Rel A0 T F p k ⟨du T sx.r xs,sx.B⟩ sv:=by
 refine⟨fun t x hx=> ?_,h.boxes,h.held.shrink (fun ℓ=> ?_) (fun a g _=>g) (fun _ w=>w),fun t e=> ?_,fun t e=> ?_,h.am⟩
 ·simp only at hx
  rw[Dl]at hx;split at hx
  ·obtain⟨y,m,rfl⟩:=aN.1 hx
   obtain⟨v,q,u⟩:=h.regs t y m;exact⟨v,q,AV.qc8 _ _ u⟩
  ·exact h.regs t x hx
 ·cases ℓ with
  |reg t=>simp only[aU,l8];split<;>simp
  |box i=>simp[aU]
 ·simp only[l8];split
  ·rfl
  ·exact h.nl t e
 ·simp only at e
  rw[Dl]at e;split at e
  ·exact h.no t (by simpa using e)
  ·exact h.no t e
theorem Rel.next(h:Rel A0 T F p k sx sv)(m:k<=k'):Rel A0 T F p k' sx sv:=⟨h.regs,h.boxes,h.held.shrink (fun _=>ct _) (fun a e _=>e) (fun _ g=>g.le m),h.nl,h.no,fun a e=>⟨fun g=>(h.am a e).1 (g.le m),(h.am a e).2⟩⟩
theorem Rel.put(h:Rel A0 T F p k sx sv)(dst:bq){a:AV}(m:a.fit v)(H:k<=k')
 (C:cQ T dst=true->(a.own v).Nodup/\∀i,i∈a.own v->A' i=true/\¬F i/\¬Fut p k' i/\∀ℓ,ℓ≠Loc.reg (dst.getD 0)->i∉aU sx.r sx.B sv.r sv.B ℓ)
 (I:∀i,sv.A i=true->(F i\/∃ℓ,i∈aU sx.r sx.B sv.r sv.B ℓ)->A' i=true) (K:∀a,A' a=true->sv.A a=true\/(Fut p 0 a/\¬Fut p k' a)) (c':Nat):
 Rel A0 T F p k' (a9 T sx dst a) {(St.put {sv with A:=A'} dst v)with c:=c'}:=by
 have w:∀a,A' a=true->¬Fut p k' a/\(A0 a=true\/Fut p 0 a):=fun a M=>by
  rcases K a M with q|⟨q,J⟩
  ·exact⟨fun m=>(h.am a q).1 (m.le H),(h.am a q).2⟩
  ·exact⟨J,.inr q⟩
 cases dst with
 |none=>exact⟨h.regs,h.boxes,h.held.shrink (fun _=>ct _) (fun i hi hx=>I i hi hx) (fun _ m=>m.le H),h.nl,h.no,w⟩
 |some d=>
  have u:∀t,t≠d->br (a9 T sx (some d) a).r ((d,v)::sv.r) t=br sx.r sv.r t:=by intro t e;simp only[br,a9,lk];rw[aD e,aD e]
  have D:br (a9 T sx (some d) a).r ((d,v)::sv.r) d=if T.contains d=true then a.own v else []:=by
   simp only[br,a9,lk,if_true];split
   ·rfl
   ·exact AV.qbM _ _
  refine⟨fun t x hx=> ?_,h.boxes,?_,fun t e=> ?_,fun t e=> ?_,w⟩
  ·simp only[a9,lk]at hx
   simp only[St.put,lk];split at hx
   ·rename_i g
    rw[ay g];simp at hx;refine⟨v,rfl,?_⟩;split at hx
    ·subst hx;exact m
    ·subst hx;exact AV.qc8 _ _ m
   ·rename_i g
    rw[aD g];exact h.regs t x hx
  ·simp only[St.put]
   by_cases G:T.contains d=true
   ·obtain⟨q,J⟩:=C G
    refine h.held.set (Loc.reg d) (fun ℓ hℓ=> ?_) (by simp only[aU,D,G,if_true];exact q) (fun i hi=> ?_) (fun ℓ hℓ i hi=> ?_) (fun i hi=>I i (h.held.fr i hi).1 (.inl hi)) (fun _ m=>m.le H)
    ·cases ℓ with
     |reg t=>simp only[aU];rw[u t (fun g=>hℓ (by rw[g]))];exact ct _
     |box i=>exact ct _
    ·simp only[aU,D,G,if_true]at hi
     obtain⟨O,Q,N,P⟩:=J i hi;refine⟨O,Q,N,fun ℓ hℓ=> ?_⟩;have:=P ℓ (by simpa using hℓ);cases ℓ with
     |reg t=>simp only[aU]at this⊢;rw[u t (fun g=>hℓ (by rw[g]))];exact this
     |box i=>exact this
    ·have:i∈aU sx.r sx.B sv.r sv.B ℓ:=by
      cases ℓ with
      |reg t=>simp only[aU]at hi⊢;rw[u t (fun g=>hℓ (by rw[g]))]at hi;exact hi
      |box i=>exact hi
     exact I i (h.held.opn ℓ i this).1 (.inr ⟨ℓ,this⟩)
   ·refine h.held.shrink (fun ℓ=> ?_) (fun i hi hx=>I i hi ?_) (fun _ m=>m.le H)
    ·cases ℓ with
     |reg t=>
      simp only[aU]
      by_cases e:t=d
      ·subst e;rw[D,aD G];simp
      ·rw[u t e];exact ct _
     |box i=>exact ct _
    ·rcases hx with hx|⟨ℓ,hx⟩
     ·exact .inl hx
     ·refine .inr ⟨ℓ,?_⟩
      cases ℓ with
      |reg t=>
       simp only[aU]at hx⊢
       by_cases e:t=d
       ·subst e;rw[D,aD G]at hx;simp at hx
       ·rw[u t e]at hx;exact hx
      |box i=>exact hx
  ·simp only[St.put]
   by_cases g:t=d
   ·subst g;rw[D,aD (by rw[e];simp)]
   ·rw[u t g];exact h.nl t e
  ·simp only[a9,lk]at e
   simp only[St.put,lk];split at e
   ·simp at e
   ·rename_i g;rw[aD g];exact h.no t e
theorem Rel.put0(h:Rel A0 T F p k sx sv)(dst:bq){a:AV}(g:a.fit v)(m:a.own v=[])(e:k<=k')(c':Nat):Rel A0 T F p k' (a9 T sx dst a) {(sv.put dst v)with c:=c'}:=h.put dst g e (fun _=>by rw[m];simp) (fun i hi _=>hi) (fun _ hi=> .inl hi) c'
end
theorem pY{T:ae}{xs:cg}(h:c9 T (x::xs)=true):(∀n,x= .t n->T.contains n=true->VX.t n∉xs)/\c9 T xs=true:=by
 simp only[c9,cb,cm,Bool.not_eq_true',List.any_eq_false]at h;refine⟨?_,h.2⟩
 rintro n rfl e m
 have g:=h.1 n (by simp only[VX.linT,e,if_true];simp);have:=g (.t n) m;simp only[VX.linT,e,if_true]at this;simp at this
variable{y:VX}
section
variable {A0:Ids} {T:ae} {F:Id->Prop} {p:Id} {k:Nat} {sx:XS} {sv:St}
theorem Rel.qf3(h:Rel A0 T F p k sx sv)(C:∀n,x= .t n->T.contains n=true->y≠.t n)(u:a∈cw sx.r sv.r x):a∉cw sx.r sv.r y:=by intro w;obtain⟨n,rfl,q,e⟩:=h.qeF u;obtain⟨m,rfl,D,g⟩:=h.qeF w;have:=h.held.apart (.reg n) (.reg m) a e g;simp at this;exact C n rfl q (by rw[this])
theorem Rel.qbm(h:Rel A0 T F p k sx sv)(x:VX):(cw sx.r sv.r x).Nodup:=by
 cases x with
 |c v=>rw[D6];simp
 |t n=>rw[tE];exact h.held.nodup (.reg n)
theorem Rel.qd6(h:Rel A0 T F p k sx sv){xs:cg}(hx:x∈xs)(q:a∈cw sx.r sv.r x)(ℓ:Loc):a∉aU (du T sx.r xs) sx.B sv.r sv.B ℓ:=by
 obtain⟨n,rfl,u,m⟩:=h.qeF q;intro e;have g:a∈aU sx.r sx.B sv.r sv.B ℓ:=by
  cases ℓ with
  |reg t=>simp only[aU,l8]at e⊢;split at e<;>first|(simp at e;done)|exact e
  |box i=>exact e
 have:=h.held.apart (.reg n) ℓ a m g;subst this;simp only[aU,l8]at e;rw[ay ⟨hx,u⟩]at e;simp at e
theorem Rel.qdC(h:Rel A0 T F p k sx sv)(g:a∈cw sx.r sv.r x):sv.A a=true/\¬F a/\¬Fut p k a:=by obtain⟨n,rfl,m,e⟩:=h.qeF g;exact h.held.opn (.reg n) a e
theorem JZ{dst:bq}(e:cQ T dst=true)(s:XS)(xs:cg):dH T dst s xs=⟨du T s.r xs,s.B⟩:=by simp[dH,e]
theorem LS{dst:bq}(e:cQ T dst=false)(s:XS)(xs:cg):dH T dst s xs=s:=by simp[dH,e]
theorem Rel.give(h:Rel A0 T F p k sx sv)(dst:bq)(xs:cg){a:AV}(g:a.fit v)(u:(a.own v).Nodup)(m:∀i,i∈a.own v->∃x,x∈xs/\i∈cw sx.r sv.r x)(q:k<=k')(c':Nat):
 Rel A0 T F p k' (a9 T (dH T dst sx xs) dst a) {(sv.put dst v)with c:=c'}:=by
 cases hl:cQ T dst with
 |false=>rw[LS hl];exact h.put dst g q (fun h'=>by rw[hl]at h';simp at h') (fun i hi _=>hi) (fun _ hi=> .inl hi) c'
 |true=>rw[JZ hl];refine(h.drops xs).put dst g q (fun _=>⟨u,fun i hi=> ?_⟩) (fun i hi _=>hi) (fun _ hi=> .inl hi) c';obtain⟨x,hx,e⟩:=m i hi;obtain⟨w,D,C⟩:=h.qdC e;exact⟨w,D,fun g=>C (g.le q),fun ℓ _=>h.qd6 hx e ℓ⟩
theorem SP{a:aw}(e:DV.fits a c)(g:DV.fits b d)(off:Nat):DV.fits (splice a off b) (splice c off d):=by unfold splice;rw[<-DV.qao g];exact DV.qa5 (DV.qa5 (DV.qbo e _) g) (DV.qbu e _)
theorem IP{a b c d:aH}(e:AV.fits a c)(g:AV.fits b d)(off:Nat):AV.fits (splice a off b) (splice c off d):=by unfold splice;rw[<-AV.qao g];exact AV.qa5 (AV.qa5 (AV.qbo e _) g) (AV.qbu e _)
theorem qvD{a:aw}(h:DV.fits a c)(m:DV.fits b d)(off:Nat):DV.owns (splice a off b) (splice c off d)=DV.owns (a.take off) (c.take off)++DV.owns b d++DV.owns (a.drop (off+b.length)) (c.drop (off+b.length)):=by unfold splice;have e:=DV.qao h;have g:=DV.qao m;rw[<-g,DV.qaY (by simp[e,g]),DV.qaY (by simp[e])]
theorem Ml{a b c d:aH}(h:AV.fits a c)(m:AV.fits b d)(off:Nat):AV.owns (splice a off b) (splice c off d)=AV.owns (a.take off) (c.take off)++AV.owns b d++AV.owns (a.drop (off+b.length)) (c.drop (off+b.length)):=by unfold splice;have e:=AV.qao h;have g:=AV.qao m;rw[<-g,AV.qaY (by simp[e,g]),AV.qaY (by simp[e])]
theorem M3{a:aw}(h:a.length=c.length)(off m:Nat):(DV.owns (a.take off) (c.take off)++DV.owns (a.drop (off+m)) (c.drop (off+m))).Sublist (DV.owns a c):=by rw[DV.qbY h off];refine jp (ct _) ?_;rw[DV.qbY (a:=a.drop off) (c:=c.drop off) (by simp[h]) m,sH,sH];exact jZ _ _
theorem IZ{a c:aH}(h:a.length=c.length)(off m:Nat):(AV.owns (a.take off) (c.take off)++AV.owns (a.drop (off+m)) (c.drop (off+m))).Sublist (AV.owns a c):=by rw[AV.qbY h off];refine jp (ct _) ?_;rw[AV.qbY (a:=a.drop off) (c:=c.drop off) (by simp[h]) m,sH,sH];exact jZ _ _
theorem E2{α:Type}{r m u w:List α}(C:(r++u).Sublist w)(K:w.Nodup)(M:m.Nodup)(I:∀a,a∈m->a∉w):(r++m++u).Nodup:=by
 have H:=K.sublist C;rw[cL]at H;obtain⟨J,O,N⟩:=H;have D:∀a,a∈r->a∈w:=fun a e=>C.subset (by simp[e])
 have G:∀a,a∈u->a∈w:=fun a e=>C.subset (by simp[e])
 rw[cL];refine⟨?_,O,?_⟩
 ·rw[cL]
  exact⟨J,M,fun a e b q g=>I b q (by rw[<-g];exact D a e)⟩
 ·intro a e b q g
  rcases bu.1 e with h|h
  ·exact N a h b q g
  ·exact I a h (by rw[g];exact G b q)
theorem N7(h:Rel A0 T F p k sx sv):∀(ps:mP) (cs ds g:aw),c9 T (ps.map fun q=>q.2.2)=true->io (bj sx.r) cs ps=some g->DV.fits cs ds->(DV.owns cs ds).Nodup->
 (∀a,a∈DV.owns cs ds->∀x,x∈ps.map (fun q=>q.2.2)->a∉cw sx.r sv.r x)->
 ∃m,io (VX.get sv.r) ds ps=some m/\DV.fits g m/\(DV.owns g m).Nodup/\∀a,a∈DV.owns g m->a∈DV.owns cs ds\/∃x,x∈ps.map (fun q=>q.2.2)/\a∈cw sx.r sv.r x
 | [],cs,ds,g,_,w,N,O,_=>by simp[io]at w;subst w;exact⟨ds,rfl,N,O,fun a e=> .inl e⟩
 |(off,size,x)::ps,cs,ds,g,hd,w,N,O,J=>by
  simp only[bF]at hd J;obtain⟨R,Y⟩:=pY hd;simp only[io]at w;split at w
  ·rename_i v hv
   split at w
   ·rename_i hc
    obtain⟨c1,c2,c3⟩:=hc;obtain⟨u,hu,P⟩:=h.get hv;simp only[AV.fit]at P;obtain⟨y,rfl,I⟩:=P;have K:=DV.qbd I;have Z:cw sx.r sv.r x=v.own y:=by rw[eX hv hu];rfl
    have G:(DV.owns v.cells y.cells)=cw sx.r sv.r x:=by rw[DV.qdD I,Z]
    have S:=SP N K off;have D:=qvD N K off;have M:=M3 (DV.qao N) off v.cells.length;have h3:(DV.owns (splice cs off v.cells) (splice ds off y.cells)).Nodup:=by rw[D];exact E2 M O (by rw[G];exact h.qbm x) (fun a e hm=>J a hm x (by simp) (by rw[<-G];exact e))
    have C:∀a,a∈DV.owns (splice cs off v.cells) (splice ds off y.cells)->a∈DV.owns cs ds\/a∈cw sx.r sv.r x:=by
     intro a e;rw[D]at e;simp only[bu]at e;rcases e with(e|e)|e
     ·exact .inl (M.subset (by simp[e]))
     ·exact .inr (by rw[<-G];exact e)
     ·exact .inl (M.subset (by simp[e]))
    obtain⟨m,e1,e2,e3,e4⟩:=N7 h ps _ _ g Y w S h3 (fun a e z Q=>by
     rcases C a e with H|H
     ·exact J a H z (by simp[Q])
     ·refine h.qf3 (fun n hx O he=> ?_) H
      subst he;exact R n hx O Q)
    refine⟨m,?_,e2,e3,fun a e=> ?_⟩
    ·simp only[io,hu]
     rw[ay ⟨by rw[DV.qbE I];exact c1,by rw[<-DV.qao N];exact c2,by rw[DV.qc7 K];exact c3⟩];exact e1
    ·rcases e4 a e with H|⟨z,Q,H⟩
     ·rcases C a H with h2|h2
      ·exact .inl h2
      ·exact .inr ⟨x,by simp,h2⟩
     ·exact .inr ⟨z,by simp only[bF,cC];exact .inr Q,H⟩
   ·simp at w
  ·simp at w
theorem CN{a:aw}(h:DV.fits a c){x y:DV}(hx:x.fit y):DV.fits (a.set i x) (c.set i y):=by
 rw[DV.qbt]at h⊢
 refine⟨by simp[h.1],fun j u v e g=> ?_⟩
 by_cases m:i=j
 ·subst m
  rw[kx]at e g;cases ha:a[i]?<;>cases hc:c[i]?<;>simp[ha,hc]at e g
  subst e;subst g;exact hx
 ·rw[jl m]at e g;exact h.2 j u v e g
theorem qp{a:aw}(h:DV.fits a c)(hi:i<a.length)(x y:DV):DV.owns (a.set i x) (c.set i y)=DV.owns (a.take i) (c.take i)++x.own y++DV.owns (a.drop (i+1)) (c.drop (i+1)):=by
 have e:=DV.qao h;have g:∀(l:aw) (z:DV),i<l.length->l.set i z=l.take i++z::l.drop (i+1):=fun l z e=>by rw[F7,ay e]
 rw[g a x hi,g c y (by omega),DV.qaY (by simp[e])];simp[DV.owns,bW]
theorem M8(h:Rel A0 T F p k sx sv)(sz:Nat):∀(ps:nT) (cs ds m:aw),c9 T (ps.map fun q=>q.2)=true->fj (bj sx.r) sz cs ps=some m->DV.fits cs ds->(∀e:DV,e∈ds->e.cells.length=sz)->(DV.owns cs ds).Nodup->
 (∀a,a∈DV.owns cs ds->∀x,x∈ps.map (fun q=>q.2)->a∉cw sx.r sv.r x)->
 ∃w,fj (VX.get sv.r) sz ds ps=some w/\DV.fits m w/\(∀e:DV,e∈w->e.cells.length=sz)/\(DV.owns m w).Nodup/\∀a,a∈DV.owns m w->a∈DV.owns cs ds\/∃x,x∈ps.map (fun q=>q.2)/\a∈cw sx.r sv.r x
 | [],cs,ds,m,_,D,O,I,P,_=>by simp[fj]at D;subst D;exact⟨ds,rfl,O,I,P,fun a g=> .inl g⟩
 |(i,x)::ps,cs,ds,m,hd,D,O,I,P,N=>by
  simp only[bF]at hd N;obtain⟨S,Z⟩:=pY hd;simp only[fj]at D;split at D
  ·rename_i v hv
   split at D
   ·rename_i hc
    obtain⟨c1,c2,c3⟩:=hc;obtain⟨u,hu,Q⟩:=h.get hv;simp only[AV.fit]at Q;obtain⟨y,rfl,G⟩:=Q;have h4:=DV.qbd G;have M:cw sx.r sv.r x=v.own y:=by rw[eX hv hu];rfl
    have Y:=CN O (i:=i) G;have J:=qp O c2 v y;have K:=M3 (DV.qao O) i 1;have h5:∀e:DV,e∈ds.set i y->e.cells.length=sz:=by
     intro e R;rcases Hm R with C|C
     ·exact I e C
     ·subst C;rw[DV.qbE G];exact c1
    have h3:(DV.owns (cs.set i v) (ds.set i y)).Nodup:=by rw[J];exact E2 K P (by rw[<-M];exact h.qbm x) (fun a g hm=>N a hm x (by simp) (by rw[M];exact g))
    have H:∀a,a∈DV.owns (cs.set i v) (ds.set i y)->a∈DV.owns cs ds\/a∈cw sx.r sv.r x:=by
     intro a g;rw[J]at g;simp only[bu]at g;rcases g with(g|g)|g
     ·exact .inl (K.subset (by simp[g]))
     ·exact .inr (by rw[M];exact g)
     ·exact .inl (K.subset (by simp[g]))
    obtain⟨w,e1,e2,e0,e3,e4⟩:=M8 h sz ps _ _ m Z D Y h5 h3 (fun a g z I=>by
     rcases H a g with C|C
     ·exact N a C z (by simp[I])
     ·refine h.qf3 (fun n hx P R=> ?_) C
      subst R;exact S n hx P I)
    refine⟨w,?_,e2,e0,e3,fun a g=> ?_⟩
    ·simp only[fj,hu]
     rw[ay ⟨by rw[DV.qbE G];exact c1,by rw[<-DV.qao O];exact c2,by rw[DV.qc7 h4];exact c3⟩];exact e1
    ·rcases e4 a g with C|⟨z,I,C⟩
     ·rcases H a C with h2|h2
      ·exact .inl h2
      ·exact .inr ⟨x,by simp,h2⟩
     ·exact .inr ⟨z,by simp only[bF,cC];exact .inr I,C⟩
   ·simp at D
  ·simp at D
theorem Rel.box(h:Rel A0 T F p k sx sv)(xs:cg)(i:Nat)(J:AV.fits cs ds)(hi:i<sx.B.length)(K:(AV.owns cs ds).Nodup)
 (C:∀a,a∈AV.owns cs ds->a∈bH sx.B sv.B i\/∃x,x∈xs/\a∈cw sx.r sv.r x):
 Rel A0 T F p k ⟨du T sx.r xs,sx.B.set i (some cs)⟩ {sv with B:=sv.B.set i (some ds)}:=by
 have M:i<sv.B.length:=by rw[<-h.boxes.1];exact hi
 have I:∀j,j≠i->bH (sx.B.set i (some cs)) (sv.B.set i (some ds)) j=bH sx.B sv.B j:=fun j N=>Sm (fun m=>N m.symm)
 have g:bH (sx.B.set i (some cs)) (sv.B.set i (some ds)) i=AV.owns cs ds:=ZS hi M;refine⟨(h.drops xs).regs,h.boxes.set i J,?_,(h.drops xs).nl,(h.drops xs).no,h.am⟩;refine h.held.set (Loc.box i) (fun ℓ hℓ=> ?_) (by simp only[aU,g];exact K) (fun a e=> ?_) (fun ℓ hℓ a e=> ?_) (fun a e=>(h.held.fr a e).1) (fun _ J=>J)
 ·cases ℓ with
  |reg t=>simp only[aU,l8];split<;>simp
  |box j=>simp only[aU];rw[I j (fun m=>hℓ (by rw[m]))];exact ct _
 ·simp only[aU,g]at e
  have gone:∀ℓ,ℓ≠Loc.box i->a∉aU (du T sx.r xs) sx.B sv.r sv.B ℓ->a∉aU (du T sx.r xs) (sx.B.set i (some cs)) sv.r (sv.B.set i (some ds)) ℓ:=by
   intro ℓ hℓ G;cases ℓ with
   |reg t=>exact G
   |box j=>simp only[aU]at G⊢;rw[I j (fun m=>hℓ (by rw[m]))];exact G
  rcases C a e with q|⟨x,hx,q⟩
  ·obtain⟨w,H,D⟩:=h.held.opn (.box i) a q
   refine⟨w,H,D,fun ℓ hℓ=>gone ℓ hℓ fun u=>hℓ ?_⟩;refine(h.held.apart (.box i) ℓ a q ?_).symm;cases ℓ with
   |reg t=>simp only[aU,l8]at u⊢;split at u<;>first|(simp at u;done)|exact u
   |box j=>exact u
  ·obtain⟨w,H,D⟩:=h.qdC q
   exact⟨w,H,D,fun ℓ hℓ=>gone ℓ hℓ (h.qd6 hx q ℓ)⟩
 ·have:a∈aU sx.r sx.B sv.r sv.B ℓ:=by
   cases ℓ with
   |reg t=>simp only[aU,l8]at e⊢;split at e<;>first|(simp at e;done)|exact e
   |box j=>simp only[aU]at e⊢;rw[I j (fun m=>hℓ (by rw[m]))]at e;exact e
  exact(h.held.opn ℓ a this).1
end
def jk(X:b_)(V:ci)(lin:Nat->ae):Prop:=
 ∀f xs B v' B',X f xs B=some (v',B')->∀p vs Bv A F,AV.fits xs vs->qbL B Bv->Held F (Fut p 0) A (aU (bA 0 xs) B (bA 0 vs) Bv)->
  (∀j,(lin f).contains j=false->br (bA 0 xs) (bA 0 vs) j=[])->(∀a,A a=true->¬Fut p 0 a)->
  ∃v e A',V p f vs Bv A=some ⟨v,A',e⟩/\v'.fit v/\qbL B' e/\Held F (fun _=>False) A' (aU [(0,v')] B' [(0,v)] e)/\
   ∀a,A' a=true->A a=true\/Fut p 0 a
theorem mB:∀(args:aH) (i t:Nat),lk (bA i args) t=if i<=t then args[t-i]? else none
 | [],i,t=>by simp[bA,lk]
 |x::xs,i,t=>by
  simp only[bA,lk]
  by_cases g:t=i
  ·subst g;simp
  ·rw[aD g,mB xs]
   by_cases e:i+1<=t
   ·rw[ay e,ay (by omega),show t-i=(t-(i+1))+1 by omega];simp
   ·rw[aD e,aD (by omega)]
theorem sV(xs vs:aH)(t:Nat):br (bA 0 xs) (bA 0 vs) t=match xs[t]?,vs[t]? with|some x,some v=>x.own v|_,_=>[]:=by
 unfold br;rw[mB,mB];simp only[c7,if_true,pZ]
 all_goals (cases xs[t]?<;>cases vs[t]?<;>rfl)
theorem qT{xs:aH}{ds:aw}(h:bd xs=some ds){vs:aH}(e:AV.fits xs vs):∃es,bd vs=some es/\DV.fits ds es/\AV.owns xs vs=DV.owns ds es:=by
 induction xs generalizing ds vs with
 |nil=>simp[bd]at h;subst h;simp only[AV.fits]at e;subst e;exact⟨[],rfl,by simp[DV.fits],by simp[AV.owns,DV.owns]⟩
 |cons x xs u=>
  cases x with
  |d d=>simp only[bd]at h;obtain⟨q,m,rfl⟩:=aN.1 h;simp only[AV.fits]at e;obtain⟨v,r,rfl,g,H⟩:=e;simp only[AV.fit]at g;obtain⟨y,rfl,D⟩:=g;obtain⟨es,w,C,G⟩:=u m H;exact⟨y::es,by simp[bd,w],by simp only[DV.fits];exact⟨_,_,rfl,D,C⟩,by simp[AV.owns,DV.owns,AV.own,G]⟩
  |_=>simp[bd]at h
theorem Mv{A0:Ids}{T:ae}{sx:XS}{sv:St}(h:Rel A0 T F p k sx sv):∀{xs:cg} {as:aH},ju sx.r xs=some as->∃vs,fM sv.r xs=some vs/\AV.fits as vs/\as.length=xs.length/\
 ∀(j:Nat) (a v:AV) (x:VX),as[j]?=some a->vs[j]?=some v->xs[j]?=some x->a.own v=cw sx.r sv.r x
 | [],as,hx=>by simp[ju]at hx;subst hx;exact⟨[],rfl,by simp[AV.fits],rfl,by simp⟩
 |x::xs,as,hx=>by
  simp only[ju]at hx;obtain⟨a,m,w⟩:=aK.1 hx;obtain⟨J,K,rfl⟩:=aN.1 w;obtain⟨v,q,D⟩:=h.get m;obtain⟨vs,H,I,G,C⟩:=Mv h K;refine⟨v::vs,by simp[fM,q,H],by simp only[AV.fits];exact⟨_,_,rfl,D,I⟩,by simp[G],fun j b u y e g hy=> ?_⟩;cases j with
  |zero=>simp at e g hy;subst e;subst g;subst hy;exact(eX m q).symm
  |succ j=>simp at e g hy;exact C j b u y e g hy
theorem HR(LP:ae):∀(vs:aH) (j:Nat),(dp LP j vs).length=vs.length
 | [],j=>rfl
 |v::r,j=>by simp[dp,HR LP r]
theorem AD(LP:ae):∀(vs:aH) (j i:Nat),(dp LP j vs)[i]?=(vs[i]?).map fun v=>if LP.contains (j+i)then v else v.clr
 | [],j,i=>by simp[dp]
 |v::r,j,i=>by
  cases i with
  |zero=>simp[dp]
  |succ i=>simp only[dp,EY];rw[AD LP r];congr 1;funext v;rw[show j+1+i=j+(i+1)by omega]
variable{LP:ae}
theorem Nv{as vs:aH}(h:AV.fits as vs)(j:Nat):AV.fits (dp LP j as) vs:=by
 rw[AV.qbt]at h⊢
 refine⟨by rw[HR];exact h.1,fun i x v hx g=> ?_⟩;rw[AD]at hx;obtain⟨y,e,rfl⟩:=aN.1 hx;have:=h.2 i y v e g;split
 ·exact this
 ·exact AV.qc8 _ _ this
theorem EN(LP:ae):∀(xs:cg) (j i:Nat) (x:VX),xs[i]?=some x->LP.contains (j+i)=true->x∈dm LP j xs
 | [],j,i,x,h,_=>by simp at h
 |y::r,j,i,x,h,hc=>by
  cases i with
  |zero=>simp at h hc;subst h;simp[dm,hc]
  |succ i=>
   simp at h;have:=EN LP r (j+1) i x h (by rw[show j+1+i=j+(i+1)by omega];exact hc);simp only[dm];split
   ·exact jg _ this
   ·exact this
theorem HQ{T:ae}:∀(xs:cg) (j i e:Nat) (x x':VX),c9 T (dm LP j xs)=true->xs[i]?=some x->xs[e]?=some x'->LP.contains (j+i)=true->LP.contains (j+e)=true->i<e->∀n,x= .t n->T.contains n=true->x'≠.t n
 | [],j,i,e,x,x',_,h,_,_,_,_=>by simp at h
 |y::r,j,i,e,x,x',g,h,h',hc,q,H=>by
  intro n hx D C;obtain⟨e,rfl⟩:∃m,e=m+1:=⟨e-1,by omega⟩;simp at h';cases i with
  |zero=>
   simp at h hc;subst h
   have u:LP.contains j=true:=by simpa using hc
   simp only[dm,u,if_true]at g;obtain⟨G,_⟩:=pY g;refine G n hx D ?_;rw[<-C];exact EN LP r (j+1) e x' h' (by rw[show j+1+e=j+(e+1)by omega];exact q)
  |succ i=>
   simp at h;have w:c9 T (dm LP (j+1) r)=true:=by
    simp only[dm]at g;split at g
    ·exact(pY g).2
    ·exact g
   exact HQ r (j+1) i e x x' w h h' (by rw[show j+1+i=j+(i+1)by omega];exact hc) (by rw[show j+1+e=j+(e+1)by omega];exact q) (by omega) n hx D C
variable{off:Nat}{agg:Bool}{s:St}
section
variable {A0:Ids} {T:ae} {F:Id->Prop} {p:Id} {k:Nat} {sx sx':XS} {sv:St} {X:b_} {V:ci} {lin:Nat->ae} {draw:Bool} {L0 i:Nat} {o:VOper}
theorem Jn{x:AV}(h:x.fit v):v.plainT=x.plainT/\(x.plainT=true->x.own v=[]):=by
 cases x<;>simp only[AV.fit]at h
 case d x=>
  obtain⟨y,rfl,e⟩:=h;cases x<;>simp only[DV.fit]at e
  case sl g xs=>
   obtain⟨g',ys,rfl,m,_⟩:=e;cases xs with
   |nil=>simp only[DV.fits]at m;subst m;exact⟨rfl,fun _=>by simp[AV.own,DV.own,DV.owns]⟩
   |cons a r=>simp only[DV.fits]at m;obtain⟨_,_,rfl,_⟩:=m;exact⟨rfl,fun h=>by simp[AV.plainT]at h⟩
  case agg cs=>obtain⟨_,rfl,_⟩:=e;exact⟨rfl,fun h=>by simp[AV.plainT]at h⟩
  case tup cs=>obtain⟨_,rfl,_⟩:=e;exact⟨rfl,fun h=>by simp[AV.plainT]at h⟩
  all_goals subst e;exact⟨rfl,fun _=>by simp[AV.own,DV.own]⟩
 case ep=>obtain⟨_,rfl,_⟩:=h;exact⟨rfl,fun h=>by simp[AV.plainT]at h⟩
 case fn=>obtain⟨_,rfl,_⟩:=h;exact⟨rfl,fun h=>by simp[AV.plainT]at h⟩
 case bsl=>obtain⟨_,rfl⟩:=h;exact⟨rfl,fun h=>by simp[AV.plainT]at h⟩
 case ag=>obtain⟨_,rfl,_⟩:=h;exact⟨rfl,fun h=>by simp[AV.plainT]at h⟩
 all_goals subst h;exact⟨rfl,fun _=>by simp[AV.own]⟩
theorem NV:∀{xs vs:aH},AV.fits xs vs->vs.all AV.plainT=xs.all AV.plainT
 | [],vs,h=>by simp only[AV.fits]at h;subst h;rfl
 |x::xs,vs,h=>by simp only[AV.fits]at h;obtain⟨v,vs,rfl,g,e⟩:=h;simp only[fW,(Jn g).1,NV e]
theorem M_:∀{xs vs:aH},AV.fits xs vs->xs.all AV.plainT=true->AV.owns xs vs=[]
 | [],vs,h,_=>by simp[AV.owns]
 |x::xs,vs,h,e=>by simp only[AV.fits]at h;obtain⟨v,vs,rfl,g,m⟩:=h;simp only[fW,cb]at e;simp only[AV.owns,(Jn g).2 e.1,M_ m e.2];rfl
theorem J1:∀{xs vs:aH},bd xs=none->AV.fits xs vs->bd vs=none
 | [],vs,h,_=>by simp[bd]at h
 |x::xs,vs,h,g=>by
  simp only[AV.fits]at g;obtain⟨v,vs,rfl,e,m⟩:=g;cases x<;>simp only[AV.fit]at e
  case d x=>
   obtain⟨y,rfl,_⟩:=e;simp only[bd,Option.map_eq_none_iff]at h⊢
   exact J1 h m
  case ep=>obtain⟨_,rfl,_⟩:=e;rfl
  case fn=>obtain⟨_,rfl,_⟩:=e;rfl
  case bsl=>obtain⟨_,rfl⟩:=e;rfl
  case ag=>obtain⟨_,rfl,_⟩:=e;rfl
  all_goals subst e;rfl
theorem yB{B:az}(h:qbL B Bv){b:Nat}(e:aW B agg sz b off=some v):
 ∃u cs ds,aW Bv agg sz b off=some u/\v.fit u/\cd B b=some cs/\cd Bv b=some ds/\AV.fits cs ds/\v.own u=AV.owns ((cs.drop off).take (if agg then sz else 1)) ((ds.drop off).take (if agg then sz else 1))/\off+(if agg then sz else 1)<=cs.length:=by
 unfold aW at e⊢
 obtain⟨cs,q,e⟩:=aK.1 e;obtain⟨ds,G,C⟩:=h.get q;rw[G];simp only[bO];cases agg with
 |true=>
  simp only[if_true]at e⊢
  split at e
  ·rename_i w
   have g:=AV.qbo (AV.qbu C off) sz;rw[ay (by rw[<-AV.qao C];exact w)];cases m:bd ((cs.drop off).take sz)with
   |none=>
    rw[m]at e;simp only[qn]at e;split at e
    ·rename_i J
     simp only[ca]at e;subst e
     rw[J1 m g];simp only[qn];rw[NV g,ay J];have I:=M_ g J;exact⟨_,cs,ds,rfl,by simp only[AV.fit];exact⟨_,rfl,g,I⟩,q,rfl,C,by rw[I];simp[AV.own],w⟩
    ·simp at e
   |some es=>
   rw[m]at e;simp only[qn,ca]at e;subst e;obtain⟨K,H,P,N⟩:=qT m g;rw[H];simp only[qn];refine⟨_,cs,ds,rfl,by simp only[AV.fit,DV.fit];exact⟨_,rfl,_,rfl,P⟩,q,rfl,C,?_,w⟩;rw[N];simp[AV.own,DV.own]
  ·simp at e
 |false=>
  simp only[bh,if_false]at e⊢
  obtain⟨u,m,H⟩:=AV.qbZ C e;have D:off<cs.length:=(cW.1 e).1;have r:off<ds.length:=(cW.1 m).1;refine⟨u,cs,ds,m,H,q,rfl,C,?_,by omega⟩;rw[dV D,dV r];have O:cs[off]=v:=by rw[ft D]at e;exact Option.some.inj e
  have M:ds[off]=u:=by rw[ft r]at m;exact Option.some.inj m
  simp[AV.owns,O,M]
theorem N9{cs ds:aw}{v:DV}(e:DV.fits cs ds)(h:cut agg sz cs=some v):∃u,cut agg sz ds=some u/\v.fit u:=by
 unfold cut at h⊢
 cases agg with
 |true=>
  simp only[if_true]at h⊢
  split at h
  ·rename_i g
   simp at h;subst h
   rw[ay (by rw[<-DV.qao e];exact g)];exact⟨_,rfl,by simp only[DV.fit];exact⟨_,rfl,DV.qbo e _⟩⟩
  ·simp at h
 |false=>
  simp only[bh,if_false]at h⊢
  exact DV.qbZ e h
theorem Rel.takeBox(h:Rel A0 T F p k sx sv)(dst:bq){b:Nat}(hl:aW sx.B agg sz b off=some v)(hk:k<=k')(c':Nat):
 ∃u,aW sv.B agg sz b off=some u/\Rel A0 T F p k' (a9 T (if cQ T dst then⟨sx.r,pU sx.B b off (if agg then sz else 1)⟩else sx) dst v) {(sv.put dst u)with c:=c'}:=by
 obtain⟨u,cs,ds,h1,h2,h3,h4,K,h6,h7⟩:=yB h.boxes hl;refine⟨u,h1,?_⟩;generalize (if agg then sz else 1)=m at h6 h7⊢
 have hb:b<sx.B.length:=by
  rcases mh b sx.B.length with hh|hh
  ·exact hh
  ·have:=lI.1 h3;rw[jf hh]at this;simp at this
 have C:bH sx.B sv.B b=AV.owns cs ds:=by unfold bH;rw[h3,h4]
 cases hT:cQ T dst with
 |false=>simp only[bh,if_false];exact h.put dst h2 hk (fun h'=>by rw[hT]at h';simp at h') (fun i hi _=>hi) (fun _ hi=> .inl hi) c'
 |true=>
  simp only[if_true];have R:=AV.qbo (AV.qbu K off) m;obtain⟨S,x3⟩:=AV.qbD _ _ R;have O:=AV.qao K;have N:splice ds off ((ds.drop off).take m)=ds:=by unfold splice;rw[wm,Pt,Hg (by omega),bW,<-List.drop_drop,dK,dK]
  have Q:=IP K S off;rw[N]at Q;have g:=Ml K S off;rw[N,x3,AV.qcx,cR]at g;have x2:((cs.drop off).take m).length=m:=by simp;omega
  rw[x2]at g;have Y:=IZ (AV.qao K) off m;have H:pU sx.B b off m=sx.B.set b (some (splice cs off (AV.clrs ((cs.drop off).take m)))):=by unfold pU;rw[h3]
  have D:=h.box [] b Q hb (by rw[g];exact(by rw[<-C];exact h.held.nodup (.box b):(AV.owns cs ds).Nodup).sublist Y) (fun a J=> .inl (by rw[C];rw[g]at J;exact Y.subset J));have P:sv.B.set b (some ds)=sv.B:=by
   apply oJ;intro j
   by_cases M:b=j
   ·subst M
    have:=lI.1 h4;rw[kx,this];simp
   ·rw[jl M]
  rw[P]at D;rw[H];have G:bH (sx.B.set b (some (splice cs off (AV.clrs ((cs.drop off).take m))))) sv.B b=AV.owns (cs.take off) (ds.take off)++AV.owns (cs.drop (off+m)) (ds.drop (off+m)):=by unfold bH;rw[BH hb,h4];exact g
  have e:(AV.owns cs ds).Nodup:=by rw[<-C];exact h.held.nodup (.box b)
  have w:AV.owns cs ds=AV.owns (cs.take off) (ds.take off)++(v.own u++AV.owns (cs.drop (off+m)) (ds.drop (off+m))):=by rw[AV.qbY (AV.qao K) off,AV.qbY (a:=cs.drop off) (c:=ds.drop off) (by simp[O]) m,h6,sH,sH]
  refine D.put dst h2 hk (fun _=>⟨?_,fun a J=> ?_⟩) (fun i hi _=>hi) (fun _ hi=> .inl hi) c'
  ·rw[w]at e
   rw[cL]at e;exact(cL.1 e.2.1).1
  ·have x1:a∈AV.owns cs ds:=by rw[w];simp[J]
   have I:a∈aU sx.r sx.B sv.r sv.B (.box b):=by simp only[aU];rw[C];exact x1
   obtain⟨q1,q2,q3⟩:=h.held.opn _ a I;refine⟨q1,q2,fun hf=>q3 (hf.le hk),fun ℓ hℓ hm=> ?_⟩;cases ℓ with
   |reg t=>have:=h.held.apart (.box b) (.reg t) a I hm;simp at this
   |box j=>
    by_cases M:j=b
    ·subst M
     have Z:a∈AV.owns (cs.take off) (ds.take off)++AV.owns (cs.drop (off+m)) (ds.drop (off+m)):=by have q:a∈bH (sx.B.set j (some (splice cs off (AV.clrs ((cs.drop off).take m))))) sv.B j:=hm;rw[G]at q;exact q
     rw[w]at e;rw[cL]at e;obtain⟨_,n2,n3⟩:=e;rw[cL]at n2;rcases bu.1 Z with h8|h8
     ·exact n3 a h8 a (by simp[J]) rfl
     ·exact n2.2.2 a J a h8 rfl
    ·have q:a∈bH (sx.B.set b (some (splice cs off (AV.clrs ((cs.drop off).take m))))) sv.B j:=hm
     rw[Ju (fun he=>M he.symm)]at q;have:=h.held.apart (.box b) (.box j) a I q;simp at this;exact M this.symm
theorem Ay(dst:bq)(v:AV):({(s.put dst v)with c:=s.c}:St)=s.put dst v:=by cases dst<;>rfl
theorem B5(dst:bq)(v:AV):(s.put dst v).c=s.c:=by cases dst<;>rfl
end
variable{o:VOper}{af:ae}{gd:qG}{z:aw}{bytes:Nat}
section
variable {A0:Ids} {T:ae} {F:Id->Prop} {p:Id} {sx sx':XS} {sv:St} {X:b_} {V:ci} {lin:Nat->ae} {draw:Bool} {L0 i:Nat}
def eG(A0:Ids)(T:ae)(F:Id->Prop)(p:Id)(V:ci)(draw:Bool)(L0 i:Nat)(o:VOper)(sv:St)(sx':XS):Prop:=∃e,b6 V p draw L0 i o sv=some e/\Rel A0 T F p (sv.c+i+1) sx' e/\e.c=sv.c
theorem em(h:b6 V p draw L0 i o sv=some (s.put o.dst v))(hc:s.c=sv.c){e:XS}(g:Rel A0 T F p (sv.c+i+1) e {(s.put o.dst v)with c:=sv.c}):eG A0 T F p V draw L0 i o sv e:=by
 refine⟨_,h,?_,by rw[B5,hc]⟩;rw[<-hc]at g⊢
 rw[Ay]at g;exact g
theorem qWL{dst:bq}(h:Rel A0 T F p (sv.c+i) sx sv)(hx:bf X lin T draw L0 ⟨dst,.move x,gd,af⟩ sx=some sx'):eG A0 T F p V draw L0 i ⟨dst,.move x,gd,af⟩ sv sx':=by simp only[bf]at hx;obtain⟨a,e,rfl⟩:=aN.1 hx;obtain⟨v,g,m⟩:=h.get e;refine em (sv:=sv) (s:=sv) (v:=v) (by simp only[b6,bm,g,b7]) rfl (h.give dst [x] m ?_ (fun i hi=>⟨x,by simp,by rw[eX e g];exact hi⟩) (cf _) _);rw[<-eX e g];exact h.qbm x
theorem Rel.getBool(h:Rel A0 T F p (sv.c+i) sx sv){b:Bool}(hx:bj sx.r x=some (au b)):x.get sv.r=some (au b):=by obtain⟨v,g,e⟩:=h.get hx;simp only[AV.fit,DV.fit]at e;obtain⟨y,rfl,rfl⟩:=e;exact g
theorem Rel.getInt(h:Rel A0 T F p (sv.c+i) sx sv){k:IntKind}{n:Int}(hx:bj sx.r x=some (.d (.int k n))):x.get sv.r=some (.d (.int k n)):=by obtain⟨v,g,e⟩:=h.get hx;simp only[AV.fit,DV.fit]at e;obtain⟨y,rfl,rfl⟩:=e;exact g
theorem Rel.getPtr(h:Rel A0 T F p (sv.c+i) sx sv){b o:Nat}(hx:bj sx.r x=some (.ptr b o)):x.get sv.r=some (.ptr b o):=by obtain⟨v,g,e⟩:=h.get hx;simp only[AV.fit]at e;subst e;exact g
theorem Wu{dst:bq}{c:VX}(h:Rel A0 T F p (sv.c+i) sx sv)(hx:bf X lin T draw L0 ⟨dst,.pick c x y,gd,af⟩ sx=some sx'):eG A0 T F p V draw L0 i ⟨dst,.pick c x y,gd,af⟩ sv sx':=by
 simp only[bf]at hx;split at hx
 ·rename_i hc
  obtain⟨a,e,rfl⟩:=aN.1 hx;obtain⟨v,g,m⟩:=h.get e;refine em (sv:=sv) (s:=sv) (v:=v) (by simp only[b6,bm,h.getBool hc,g,b7]) rfl (h.give dst [x] m ?_ (fun i hi=>⟨x,by simp,by rw[eX e g];exact hi⟩) (cf _) _);rw[<-eX e g];exact h.qbm x
 ·rename_i hc
  obtain⟨a,e,rfl⟩:=aN.1 hx;obtain⟨v,g,m⟩:=h.get e;refine em (sv:=sv) (s:=sv) (v:=v) (by simp only[b6,bm,h.getBool hc,g,b7]) rfl (h.give dst [y] m ?_ (fun i hi=>⟨y,by simp,by rw[eX e g];exact hi⟩) (cf _) _);rw[<-eX e g];exact h.qbm y
 ·simp at hx
theorem H7{B:az}(h:eO B n=true):n<B.length:=by
 unfold eO at h;split at h
 ·rename_i e;exact(cW.1 e).1
 ·simp at h
theorem Xs{dst:bq}(h:Rel A0 T F p (sv.c+i) sx sv)(hx:bf X lin T draw L0 ⟨dst,.alloc k z,gd,af⟩ sx=some sx'):eG A0 T F p V draw L0 i ⟨dst,.alloc k z,gd,af⟩ sv sx':=by
 simp only[bf]at hx;split at hx
 ·rename_i hc
  simp at hx;subst hx
  have m:AV.fits (z.map fun z=>AV.d z.cn1) (z.map .d):=by have:=AV.qqv (DV.qj7 z);rw[eI]at this;exact this
  have e:AV.owns (z.map fun z=>AV.d z.cn1) (z.map .d)=[]:=by
   have:z.map (fun z=>AV.d z.cn1)=(z.map DV.cn1).map .d:=by rw[eI];rfl
   rw[this,AV.qqu,DV.qih]
  have g:=h.box [] (L0+k) m (H7 hc.1) (by rw[e];simp) (by rw[e];simp);refine em (sv:=sv) (s:={sv with B:=sv.B.set (L0+k) (some (z.map .d))}) (v:= .ptr (L0+k) 0) (by simp only[b6];rw[ay ⟨by rw[h.boxes.free];exact hc.1,hc.2⟩]) rfl ?_;exact g.put0 dst (by simp[AV.fit]) (by simp[AV.own]) (cf _) _
 ·simp at hx
theorem q3J{dst:bq}(h:Rel A0 T F p (sv.c+i) sx sv)(hx:bf X lin T draw L0 ⟨dst,.box k x,gd,af⟩ sx=some sx'):eG A0 T F p V draw L0 i ⟨dst,.box k x,gd,af⟩ sv sx':=by
 simp only[bf]at hx;obtain⟨a,e,hx⟩:=aK.1 hx;obtain⟨v,g,m⟩:=h.get e;split at hx
 ·rename_i hc
  simp at hx;subst hx
  have r:=AV.qbd m;have q:=AV.qdD m;have u:=h.box [x] (L0+k) r (H7 hc.1) (by rw[q,<-eX e g];exact h.qbm x) (fun i hi=> .inr ⟨x,by simp,by rw[eX e g,<-q];exact hi⟩);refine em (sv:=sv) (s:={sv with B:=sv.B.set (L0+k) (some v.cells)}) (v:= .ptr (L0+k) 0) (by simp only[b6,g,bO];rw[ay ⟨by rw[h.boxes.free];exact hc.1,by rw[AV.qc7 r];exact hc.2.1,by rw[AV.qlX _ _ _ m];exact hc.2.2⟩]) rfl ?_;exact u.put0 dst (by simp[AV.fit]) (by simp[AV.own]) (cf _) _
 ·simp at hx
theorem qSw{dst:bq}{ps:mP}(h:Rel A0 T F p (sv.c+i) sx sv)(u:c9 T (ps.map fun q=>q.2.2)=true)(hx:bf X lin T draw L0 ⟨dst,.build z ps,gd,af⟩ sx=some sx'):eG A0 T F p V draw L0 i ⟨dst,.build z ps,gd,af⟩ sv sx':=by
 simp only[bf]at hx;obtain⟨cs,g,rfl⟩:=aN.1 hx;obtain⟨ds,m,D,w,r⟩:=N7 h ps _ z cs u g (DV.qj7 z) (by rw[DV.qih];simp) (by rw[DV.qih];simp);refine em (sv:=sv) (s:=sv) (v:= .d (.agg ds)) (by simp only[b6,bm,m,b7]) rfl (h.give dst _ (by simp only[AV.fit,DV.fit];exact⟨_,rfl,_,rfl,D⟩) (by simpa[AV.own,DV.own]using w) (fun i hi=> ?_) (cf _) _);rcases r i (by simpa[AV.own,DV.own]using hi)with e|⟨x,e,C⟩
 ·rw[DV.qih]at e;simp at e
 ·exact⟨x,e,C⟩
theorem qMW(n:Nat)(z:DV):DV.fits (List.replicate n z.cn) (List.replicate n z):=by
 rw[DV.qbt];refine⟨by simp,fun i x y hx hy=> ?_⟩;rw[FG]at hx hy;split at hx<;>simp_all
 rw[<-hx,<-hy];exact DV.qvb _
theorem ER(n:Nat)(z:DV)(l:aw):DV.owns (List.replicate n z.cn) l=[]:=by
 induction n generalizing l with
 |zero=>simp[DV.owns]
 |succ n e=>cases l<;>simp[me,DV.owns,DV.qK9,e]
theorem yE(p:Id)(k:Nat)(A:Ids):∀a,Ids.add (k::p) A a=true->A a=true\/(Fut p 0 a/\¬Fut p (k+1) a):=by
 intro a e;simp only[Ids.add,iV,cA]at e;rcases e with rfl|e
 ·exact .inr ⟨(Fut.self p k).le (c7 _),Fut.qr2 (nQ _)⟩
 ·exact .inl e
theorem Q_{dst:bq}{z:DV}{ps:nT}(h:Rel A0 T F p (sv.c+i) sx sv)(P:c9 T (ps.map fun q=>q.2)=true)(hx:bf X lin T draw L0 ⟨dst,.buildSlice sz z n ps,gd,af⟩ sx=some sx'):eG A0 T F p V draw L0 i ⟨dst,.buildSlice sz z n ps,gd,af⟩ sv sx':=by
 simp only[bf]at hx;split at hx
 ·rename_i hc
  obtain⟨cs,Y,rfl⟩:=aN.1 hx;obtain⟨ds,Z,R,h0,Q,h5⟩:=M8 h sz ps _ (List.replicate n z) cs P Y (qMW n z) (fun e I=>by rw[(List.mem_replicate.1 I).2];exact hc.1) (by rw[ER];simp) (by rw[ER];simp);have m:(AV.d (.sl U cs)).fit (.d (.sl (.own ((sv.c+i)::p) sz) ds)):=by
   simp only[AV.fit,DV.fit];refine⟨_,rfl,_,_,rfl,R,.inr ⟨rfl,?_⟩⟩
   by_cases K:cs.length=0
   ·exact .inl ⟨K,.inr ⟨_,_,rfl⟩⟩
   ·exact .inr ⟨K,_,_,rfl,h0⟩
  have w:∀a,a∈DV.owns cs ds->∃x,x∈ps.map (fun q=>q.2)/\a∈cw sx.r sv.r x:=fun a g=>by
   rcases h5 a g with D|D
   ·rw[ER]at D;simp at D
   ·exact D
  have G:∀a,a∈(AV.d (.sl U cs)).own (.d (.sl (.own ((sv.c+i)::p) sz) ds))->a=(sv.c+i)::p\/a∈DV.owns cs ds:=by
   intro a g;simp only[AV.own,DV.own,bu]at g;rcases g with g|g
   ·split at g<;>simp[Tag.ids]at g
    exact .inl g
   ·exact .inr g
  have u:∀ℓ,(sv.c+i)::p∉aU sx.r sx.B sv.r sv.B ℓ:=fun ℓ C=>(h.held.opn ℓ _ C).2.2 (Fut.self p _)
  have J:((AV.d (.sl U cs)).own (.d (.sl (.own ((sv.c+i)::p) sz) ds))).Nodup:=by
   simp only[AV.own,DV.own];rw[cL];refine⟨by split<;>simp[Tag.ids],Q,fun a g b N I=> ?_⟩;split at g<;>simp[Tag.ids]at g
   subst g;subst I
   obtain⟨x,_,H⟩:=w _ N;obtain⟨n',rfl,_,O⟩:=h.qeF H;exact u (.reg n') O
  refine em (sv:=sv) (s:={sv with A:=Ids.add ((sv.c+i)::p) sv.A}) (v:= .d (.sl (.own ((sv.c+i)::p) sz) ds)) (by simp only[b6,Z,b7];rw[ay hc]) rfl ?_;cases hT:cQ T dst with
  |false=>rw[LS hT];exact h.put dst m (cf _) (fun h'=>by rw[hT]at h';simp at h') (fun a g _=>by simp[Ids.add,g]) (yE p _ sv.A) _
  |true=>
   rw[JZ hT];refine(h.drops _).put dst m (cf _) (fun _=>⟨J,fun a g=> ?_⟩) (fun a g _=>by simp[Ids.add,g]) (yE p _ sv.A) _;rcases G a g with rfl|g
   ·refine⟨by simp[Ids.add],fun S=>(h.held.fr _ S).2 (Fut.self p _),Fut.qr2 (nQ _),fun ℓ _ C=> ?_⟩
    refine u ℓ ?_;cases ℓ with
    |reg t=>simp only[aU,l8]at C⊢;split at C<;>first|(simp at C;done)|exact C
    |box j=>exact C
   ·obtain⟨x,D,H⟩:=w a g
    obtain⟨q1,q2,M⟩:=h.qdC H;exact⟨by simp[Ids.add,q1],q2,fun hf=>M (hf.le (cf _)),fun ℓ _=>h.qd6 D H ℓ⟩
 ·simp at hx
theorem Pr{dst:bq}{z:DV}(h:Rel A0 T F p (sv.c+i) sx sv)(hx:bf X lin T draw L0 ⟨dst,.makeSlice k sz bytes z x,gd,af⟩ sx=some sx'):eG A0 T F p V draw L0 i ⟨dst,.makeSlice k sz bytes z x,gd,af⟩ sv sx':=by
 simp only[bf]at hx;split at hx
 ·rename_i w n r
  split at hx
  ·rename_i hc
   simp at hx;subst hx
   have g:DV.fits ((List.replicate n.toNat z.cn).flatMap DV.cells) ((List.replicate n.toNat z).flatMap DV.cells):=by
    generalize n.toNat=m
    induction m with
    |zero=>simp[DV.fits]
    |succ m q=>simp only[me,mt];exact DV.qa5 (DV.qbd (DV.qvb z)) q
   have e:DV.owns ((List.replicate n.toNat z.cn).flatMap DV.cells) ((List.replicate n.toNat z).flatMap DV.cells)=[]:=by
    generalize n.toNat=m
    induction m with
    |zero=>simp[DV.owns]
    |succ m q=>simp only[me,mt];rw[DV.qaY (DV.qao (DV.qbd (DV.qvb z))),DV.qdD (DV.qvb z),DV.qK9,q];rfl
   have u:=h.box [] (L0+k) (AV.qqv g) (H7 hc.2.1) (by rw[AV.qqu,e];simp) (by rw[AV.qqu,e];simp);refine em (sv:=sv) (s:={sv with B:=sv.B.set (L0+k) (some (((List.replicate n.toNat z).flatMap DV.cells).map .d))}) (v:= .bsl ((sv.c+i)::p) (isAgg z) (L0+k) sz n.toNat) (by simp only[b6,h.getInt r];rw[ay ⟨hc.1,by rw[h.boxes.free];exact hc.2.1,hc.2.2⟩];cases z<;>rfl) rfl ?_;exact u.put0 dst (by simp[AV.fit]) (by simp[AV.own]) (cf _) _
  ·simp at hx
 ·simp at hx
theorem DV.qu9:∀(xs ys:aw) (n:Nat),(DV.owns (xs.take n) (ys.take n)).Sublist (DV.owns xs ys)
 | [],ys,n=>by simp[DV.owns]
 |x::xs,[],n=>by simp[DV.owns]
 |x::xs,y::ys,0=>by simp[DV.owns]
 |x::xs,y::ys,n+1=>by simp only[yN,DV.owns];exact jp (ct _) (DV.qu9 xs ys n)
theorem qVt{cs ds:aw}{v u:DV}(h:cut agg sz cs=some v)(h':cut agg sz ds=some u):(v.own u).Sublist (DV.owns cs ds):=by
 unfold cut at h h';cases agg with
 |true=>
  simp only[if_true]at h h';split at h
  ·split at h'
   ·simp at h h';subst h;subst h'
    simp only[DV.own];exact DV.qu9 cs ds sz
   ·simp at h'
  ·simp at h
 |false=>simp only[bh,if_false]at h h';exact DV.qb4 h h'
theorem ZU{dst:bq}(h:Rel A0 T F p (sv.c+i) sx sv)(hx:bf X lin T draw L0 ⟨dst,.load agg sz x,gd,af⟩ sx=some sx'):eG A0 T F p V draw L0 i ⟨dst,.load agg sz x,gd,af⟩ sv sx':=by
 simp only[bf]at hx;split at hx
 ·rename_i cs g
  obtain⟨v,m,rfl⟩:=aN.1 hx;obtain⟨u,r,q⟩:=h.get g;simp only[AV.fit]at q;obtain⟨ds,rfl,H⟩:=q;obtain⟨w,G,I⟩:=N9 H m;have D:=qVt m G;have C:=eX g r;simp only[AV.own]at C;refine em (sv:=sv) (s:=sv) (v:= .d w) (by simp only[b6,r,G,b7]) rfl (h.give dst [x] (by simp only[AV.fit];exact⟨_,rfl,I⟩) ?_ (fun i hi=>⟨x,by simp,by rw[C];exact D.subset (by simpa only[AV.own]using hi)⟩) (cf _) _);have e:=h.qbm x;rw[C]at e;simp only[AV.own];exact e.sublist D
 ·rename_i b off g
  split at hx
  ·simp at hx
  ·rename_i J
   obtain⟨v,m,rfl⟩:=aN.1 hx;obtain⟨u,r,q⟩:=h.takeBox dst m (cf _) sv.c;exact em (sv:=sv) (s:=sv) (v:=u) (by simp only[b6,h.getPtr g,r,b7];rw[aD J]) rfl q
 ·simp at hx
theorem NR{dst:bq}{init:Bool}{a:VX}(h:Rel A0 T F p (sv.c+i) sx sv)(hx:bf X lin T draw L0 ⟨dst,.store init sz a x,gd,af⟩ sx=some sx'):eG A0 T F p V draw L0 i ⟨dst,.store init sz a x,gd,af⟩ sv sx':=by
 simp only[bf]at hx;split at hx
 ·rename_i b off v Z R
  split at hx
  ·simp at hx
  ·rename_i hd
   obtain⟨B',Q,rfl⟩:=aN.1 hx;unfold oW at Q;obtain⟨cs,J,I⟩:=aK.1 Q;split at I
   ·rename_i hc
    simp at I;subst I
    obtain⟨u,P,G⟩:=h.get R;obtain⟨ds,O,H⟩:=h.boxes.get J;have w:=AV.qbd G;have S:b<sx.B.length:=by
     rcases mh b sx.B.length with M|M
     ·exact M
     ·have:=lI.1 J;rw[jf M]at this;simp at this
    have g:bH sx.B sv.B b=AV.owns cs ds:=by unfold bH;rw[J,O]
    have m:AV.owns v.cells u.cells=cw sx.r sv.r x:=by rw[AV.qdD G,eX R P]
    have C:=IZ (AV.qao H) off v.cells.length;have N:=Ml H w off;have D:=h.box [x] b (IP H w off) S (by
     rw[N];refine E2 C (by rw[<-g];exact h.held.nodup (.box b)) (by rw[m];exact h.qbm x) (fun q e Y=> ?_);rw[m]at e;obtain⟨n,rfl,hn,K⟩:=h.qeF e;have:=h.held.apart (.reg n) (.box b) q K (by simp only[aU];rw[g];exact Y);simp at this) (fun q e=>by
     rw[N]at e;simp only[bu]at e;rcases e with(e|e)|e
     ·exact .inl (by rw[g];exact C.subset (by simp[e]))
     ·exact .inr ⟨x,by simp,by rw[<-m];exact e⟩
     ·exact .inl (by rw[g];exact C.subset (by simp[e])))
    refine em (sv:=sv) (s:={sv with B:=sv.B.set b (some (splice ds off u.cells))}) (v:= .und) (by
     simp only[b6,h.getPtr Z,P];rw[aD hd];simp only[xR,O,bO];rw[ay ⟨by rw[AV.qbE G];exact hc.1,by rw[<-AV.qao H];exact hc.2.1,by rw[AV.qc7 w];exact hc.2.2.1,by rw[AV.qlX _ _ _ G];exact hc.2.2.2⟩];rfl) rfl ?_
    exact D.put0 dst (by simp[AV.fit]) (by simp[AV.own]) (cf _) _
   ·simp at I
 ·simp at hx
theorem P2{dst:bq}{a:VX}{av:ae}(h:Rel A0 T F p (sv.c+i) sx sv)(hx:bf X lin T draw L0 ⟨dst,.storeN sz a x av,gd,af⟩ sx=some sx'):eG A0 T F p V draw L0 i ⟨dst,.storeN sz a x av,gd,af⟩ sv sx':=by
 simp only[bf]at hx;split at hx
 ·rename_i b off v u M
  split at hx
  ·simp at hx
  ·rename_i hc
   simp only[iV,not_or,Bool.not_eq_true',Bool.not_eq_false]at hc;have m:bf X lin T draw L0 ⟨dst,.store false sz a x,gd,af⟩ sx=some sx':=by simp only[bf,u,M];rw[aD hc.1];exact hx
   obtain⟨q,e,J⟩:=NR (X:=X) (V:=V) h m;refine⟨q,?_,J⟩;have g:lD sv.r b av=true:=by
    unfold lD;rw[cm];intro t K;have:=cm.1 hc.2 t K;split at this
    ·rename_i b' D I
     obtain⟨y,N,H⟩:=h.regs t _ I;simp only[AV.fit]at H;subst H
     rw[N];exact this
    ·simp at this
   simp only[b6,h.getPtr u]at e⊢
   split at e
   ·rename_i P C w G Q
    simp only[ca,AV.ptr.injEq]at G;obtain⟨rfl,rfl⟩:=G;split at e
    ·simp at e
    ·rename_i O
     rw[aD (by simp only[iV,not_or];exact⟨O,by rw[g];simp⟩)];exact e
   ·simp at e
 ·simp at hx
end
section
variable {A0:Ids} {T:ae} {F:Id->Prop} {p:Id} {sx sx':XS} {sv:St} {X:b_} {V:ci} {lin:Nat->ae} {draw:Bool} {L0 i:Nat}
theorem So(h:DV.fits xs ys)(hx:∀e:DV,e∈xs->e.cells.length=sz/\e.cells.all DV.isCell=true):∀e:DV,e∈ys->e.cells.length=sz/\e.cells.all DV.isCell=true:=by
 intro e r;obtain⟨j,q⟩:=jN.1 r;obtain⟨w,D⟩:=(DV.qbt _ _).1 h;have g:j<xs.length:=by rw[w];exact(cW.1 q).1
 have m:=D j xs[j] e (by simp[g]) q;obtain⟨C,u⟩:=hx _ (gY g);exact⟨by rw[DV.qbE m];exact C,by rw[DV.qc7 (DV.qbd m)];exact u⟩
theorem PT(h:DV.fits xs ys)(hx:∀e:DV,e∈xs->e.cells.length=sz):∀e:DV,e∈ys->e.cells.length=sz:=by
 intro e q;obtain⟨j,m⟩:=jN.1 q;obtain⟨u,w⟩:=(DV.qbt _ _).1 h;have g:j<xs.length:=by rw[u];exact(cW.1 m).1
 have r:=w j xs[j] e (by simp[g]) m;rw[DV.qbE r];exact hx _ (gY g)
theorem qL8{dst:bq}(h:Rel A0 T F p (sv.c+i) sx sv)(hl:c9 T [x,y]=true)(hx:bf X lin T draw L0 ⟨dst,.append sz bytes x y,gd,af⟩ sx=some sx'):eG A0 T F p V draw L0 i ⟨dst,.append sz bytes x y,gd,af⟩ sv sx':=by
 simp only[bf]at hx;split at hx
 ·rename_i v w h1 h2
  obtain⟨u,K,rfl⟩:=aN.1 hx;obtain⟨v',h4,h5⟩:=h.get h1;obtain⟨w',h6,h7⟩:=h.get h2;have ox:=eX h1 h4;have oy:=eX h2 h6;simp only[AV.fit]at h5 h7;obtain⟨v',rfl,h5⟩:=h5;obtain⟨w',rfl,h7⟩:=h7;have a3:∀L:cg,x∈(if cQ T dst then [x,y]else [x]):=fun _=>by split<;>simp
  have J:∀a,a∈cw sx.r sv.r x->a∉cw sx.r sv.r y:=fun a C=>h.qf3 (fun n hx hn D=>by
   subst hx;subst D
   exact(pY hl).1 n rfl hn (by simp)) C
  unfold bU at K;split at K
  ·rename_i g xs gy ys
   simp only[DV.fit]at h5 h7;obtain⟨g',m,rfl,R,htx⟩:=h5;obtain⟨gy',q,rfl,c1,hty⟩:=h7;have S:=DV.qao R;have x1:=DV.qao c1;split at K
   ·rename_i c2
    have hall:∀e:DV,e∈ys->e.cells.length=sz/\e.cells.all DV.isCell=true:=by intro e D;have:=cm.1 c2 e D;simp only[cA]at this;exact this
    have M:=So c1 hall;have N:q.all (fun e=>decide (e.cells.length=sz/\e.cells.all DV.isCell=true))=true:=by rw[cm];intro e D;simp only[cA];exact M e D
    split at K
    ·rename_i x3
     simp at x3;subst x3
     have:q=[]:=by rw[<-List.length_eq_zero_iff];simpa using x1.symm
     subst this;simp at K;subst K
     refine em (sv:=sv) (s:=sv) (v:= .d (.sl g' m)) (by simp only[b6,h4,h6];simp[qF]) rfl ?_;have hft:(AV.d (.sl g xs)).fit (.d (.sl g' m)):=by simp only[AV.fit,DV.fit];exact⟨_,rfl,_,_,rfl,R,htx⟩
     refine(h.drops _).put dst hft (cf _) (fun _=>⟨by rw[<-ox];exact h.qbm x,fun a C=> ?_⟩) (fun a C _=>C) (fun _ hi=> .inl hi) _;rw[<-ox]at C;obtain⟨q1,q2,q3⟩:=h.qdC C;exact⟨q1,q2,fun hf=>q3 (hf.le (cf _)),fun ℓ _=>h.qd6 (a3 []) C ℓ⟩
    ·rename_i hne0
     have hne:ys≠[]:=by simpa using hne0
     have hne':q≠[]:=by intro D;subst D;simp at x1;exact hne x1
     have P:q.isEmpty=false:=by cases q<;>simp_all
     split at K
     ·rename_i hc
      obtain⟨Z,rfl,x2⟩:=hc;simp at K;subst K
      have hxall:∀e:DV,e∈xs->e.cells.length=sz:=by intro e D;have:=cm.1 x2 e D;simpa using this
      have H:(m.length+q.length)*bytes<=140737488355328:=by rw[<-S,<-x1];exact Z
      have hel:∀e:DV,e∈m++q->e.cells.length=sz:=by
       intro e D;rcases bu.1 D with D|D
       ·exact PT R hxall e D
       ·exact(M e D).1
      have hfit:(AV.d (.sl U (xs++ys))).fit (.d (.sl (.own ((sv.c+i)::p) sz) (m++q))):=by simp only[AV.fit,DV.fit];refine⟨_,rfl,_,_,rfl,DV.qa5 R c1,.inr ⟨rfl,.inr ⟨by simp[hne],_,_,rfl,hel⟩⟩⟩
      have hown:(AV.d (.sl U (xs++ys))).own (.d (.sl (.own ((sv.c+i)::p) sz) (m++q)))=((sv.c+i)::p)::(DV.owns xs m++DV.owns ys q):=by simp only[AV.own,DV.own];rw[ay ⟨trivial,by simp[hne]⟩,DV.qaY S];simp[Tag.ids]
      have Y:∀a,a∈DV.owns xs m->a∈cw sx.r sv.r x:=fun a C=>by rw[ox];simp[AV.own,DV.own,C]
      have O:∀a,a∈DV.owns ys q->a∈cw sx.r sv.r y:=fun a C=>by rw[oy];simp[AV.own,DV.own,C]
      have a2:∀ℓ,(sv.c+i)::p∉aU sx.r sx.B sv.r sv.B ℓ:=fun ℓ G=>(h.held.opn ℓ _ G).2.2 (Fut.self p _)
      have Q:∀z,(sv.c+i)::p∉cw sx.r sv.r z:=fun z G=>by obtain⟨n,rfl,_,h8⟩:=h.qeF G;exact a2 (.reg n) h8
      have hnd:(((sv.c+i)::p)::(DV.owns xs m++DV.owns ys q)).Nodup:=by
       rw[Ai,cL];refine⟨fun G=> ?_,(h.qbm x).sublist (by rw[ox];simp only[AV.own,DV.own];exact jZ _ _),(h.qbm y).sublist (by rw[oy];simp only[AV.own,DV.own];exact jZ _ _),fun a C b hb D=> ?_⟩
       ·rcases bu.1 G with G|G
        ·exact Q x (Y _ G)
        ·exact Q y (O _ G)
       ·subst D;exact J a (Y a C) (O a hb)
      have hV:∃A',qF sv ((sv.c+i)::p) sz bytes (.sl g' m) (.sl gy' q)=some (.d (.sl (.own ((sv.c+i)::p) sz) (m++q)),{sv with A:=A'})/\A' ((sv.c+i)::p)=true/\
       (∀a,sv.A a=true->(a∉cw sx.r sv.r x\/a∈DV.owns xs m)->A' a=true)/\∀a,A' a=true->sv.A a=true\/(Fut p 0 a/\¬Fut p (sv.c+i+1) a):=by
       rcases htx with h8|⟨_,h8⟩
       ·exact absurd h8 (by decide)
       rcases h8 with⟨h9,h10⟩|⟨h9,a0,sz',rfl,h11⟩
       ·have hx0:m=[]:=by rw[<-List.length_eq_zero_iff];omega
        subst hx0;refine⟨Ids.add ((sv.c+i)::p) sv.A,?_,by simp[Ids.add],fun a C _=>by simp[Ids.add,C],yE p _ sv.A⟩;have hb0:(([]:aw).length+q.length)*bytes<=140737488355328:=H;unfold qF;simp only;rw[ay N,P];simp only[bh,if_false];rw[ay hb0];rcases h10 with rfl|⟨a0,s0,rfl⟩<;>simp
       ·have hxne:m≠[]:=by intro D;subst D;simp at S;exact h9 (by rw[S];rfl)
        have b1:m.isEmpty=false:=by cases m<;>simp_all
        have hs:sz'=sz:=by obtain⟨e,D⟩:=List.exists_mem_of_ne_nil m hxne;rw[<-h11 e D,hel e (by simp[D])]
        have a1:a0∈cw sx.r sv.r x:=by rw[ox];simp only[AV.own,DV.own];rw[ay ⟨trivial,h9⟩];simp[Tag.ids]
        obtain⟨ha0,_,_⟩:=h.qdC a1;refine⟨Ids.add ((sv.c+i)::p) (Ids.del a0 sv.A),?_,by simp[Ids.add],fun a C I=> ?_,fun a C=>(yE p _ _ a C).imp_left fun h=>by simp[Ids.del]at h;exact h.2⟩
        ·unfold qF
         simp only;rw[ay N,P];simp only[bh,if_false];rw[ay H,b1];simp only[bh,if_false];rw[ay ⟨hs,ha0⟩]
        ·have hne2:a≠a0:=by
          rintro rfl
          rcases I with I|I
          ·exact I a1
          ·have:=h.qbm x
           rw[ox]at this;simp only[AV.own,DV.own]at this;rw[ay ⟨trivial,h9⟩]at this;simp only[Tag.ids,List.singleton_append,Ai]at this;exact this.1 I
         simp[Ids.add,Ids.del,hne2,C]
      obtain⟨A',hV1,hV2,b2,hV4⟩:=hV;refine em (sv:=sv) (s:={sv with A:=A'}) (v:= .d (.sl (.own ((sv.c+i)::p) sz) (m++q))) (by simp only[b6,h4,h6,hV1,b7]) rfl ?_;refine(h.drops _).put dst hfit (cf _) (fun hT=> ?_) (fun a C I=>b2 a C (.inl ?_)) hV4 _
      ·rw[hown]
       refine⟨hnd,fun a C=> ?_⟩;simp only[hT,if_true];rcases cC.1 C with rfl|C
       ·refine⟨hV2,fun hF=>(h.held.fr _ hF).2 (Fut.self p _),Fut.qr2 (nQ _),fun ℓ _ G=> ?_⟩
        refine a2 ℓ ?_;cases ℓ with
        |reg t=>simp only[aU,l8]at G⊢;split at G<;>first|(simp at G;done)|exact G
        |box j=>exact G
       ·rcases bu.1 C with C|C
        ·obtain⟨q1,q2,q3⟩:=h.qdC (Y a C)
         exact⟨b2 a q1 (.inr C),q2,fun hf=>q3 (hf.le (cf _)),fun ℓ _=>h.qd6 (by simp) (Y a C) ℓ⟩
        ·obtain⟨q1,q2,q3⟩:=h.qdC (O a C)
         exact⟨b2 a q1 (.inl fun G=>J a G (O a C)),q2,fun hf=>q3 (hf.le (cf _)),fun ℓ _=>h.qd6 (by simp) (O a C) ℓ⟩
      ·intro G
       rcases I with hF|⟨ℓ,hℓ⟩
       ·exact(h.qdC G).2.1 hF
       ·exact h.qd6 (a3 []) G ℓ hℓ
     ·simp at K
   ·simp at K
  ·simp at K
 ·simp at hx
theorem TO{dst:bq}(h:Rel A0 T F p (sv.c+i) sx sv)(hx:bf X lin T draw L0 ⟨dst,.extract x k,gd,af⟩ sx=some sx'):eG A0 T F p V draw L0 i ⟨dst,.extract x k,gd,af⟩ sv sx':=by
 simp only[bf]at hx;split at hx
 ·rename_i vs h1
  obtain⟨v,R,rfl⟩:=aN.1 hx;obtain⟨w,Q,Z⟩:=h.get h1;simp only[AV.fit]at Z;obtain⟨us,rfl,S,Y⟩:=Z;obtain⟨u,h7,h8⟩:=AV.qbZ S R;refine em (sv:=sv) (s:=sv) (v:=u) (by simp only[b6,bm,Q,h7,b7]) rfl ?_;exact h.put0 dst (AV.qc8 _ _ h8) (AV.qbM _ _) (cf _) _
 ·rename_i vs h1
  obtain⟨v,R,rfl⟩:=aN.1 hx;obtain⟨w,Q,Z⟩:=h.get h1;have G:=eX h1 Q;simp only[AV.fit,DV.fit]at Z;obtain⟨_,rfl,us,rfl,S⟩:=Z;obtain⟨u,Y,h7⟩:=DV.qbZ S R;have K:(AV.d v).fit (.d u):=by simp only[AV.fit];exact⟨_,rfl,h7⟩
  refine em (sv:=sv) (s:=sv) (v:= .d u) (by simp only[b6,bm,Q,Y,b7]) rfl ?_;have hk:k<vs.length:=(cW.1 R).1;have a1:k<us.length:=(cW.1 Y).1;have g:(v.own u).Sublist (DV.owns vs us):=DV.qb4 R Y;simp only[AV.own,DV.own]at G;cases hT:cQ T dst with
  |false=>
   have key:Rel A0 T F p (sv.c+i+1) (a9 T sx dst (.d v)) {(sv.put dst (.d u))with c:=sv.c}:=h.put dst K (cf _) (fun h'=>by rw[hT]at h';simp at h') (fun a D _=>D) (fun _ hi=> .inl hi) _;cases x with
   |c q=>exact key
   |t n=>simp only[qh,bh,if_false];exact key
  |true=>
   have none:(v.own u=[])->Rel A0 T F p (sv.c+i+1) (a9 T sx dst (.d v)) {(sv.put dst (.d u))with c:=sv.c}:=fun h0=>h.put0 dst K (by simpa[AV.own]using h0) (cf _) _
   cases x with
   |c q=>refine none ?_;rw[D6]at G;rw[<-G]at g;exact sb.1 g
   |t n=>
    cases hn:T.contains n with
    |false=>simp only[hn,x_,bh,if_false];refine none ?_;rw[tE,h.nl n hn]at G;rw[<-G]at g;exact sb.1 g
    |true=>
     simp only[hn,Bool.and_self,if_true];rw[tE]at G;have H:us.set k u=us:=by
      apply oJ;intro j
      by_cases hj:k=j
      ·subst hj;rw[kx,Y];simp
      ·rw[jl hj]
     have x1:=CN S (i:=k) (DV.qc8 _ _ h7);have I:=qp S hk v.clr u;have N:=qp S hk v u;have O:vs.set k v=vs:=by
      apply oJ;intro j
      by_cases hj:k=j
      ·subst hj;rw[kx,R];simp
      ·rw[jl hj]
     rw[H]at x1 I;rw[H,O]at N;rw[DV.qbM,cR]at I;have x2:br ((n,AV.d (.tup (vs.set k v.clr)))::sx.r) sv.r n=DV.owns (vs.take k) (us.take k)++DV.owns (vs.drop (k+1)) (us.drop (k+1)):=by have x3:lk sv.r n=some (.d (.tup us)):=Q;unfold br;rw[x3];simp only[lk,if_true,AV.own,DV.own];exact I
     have J:∀t,t≠n->br ((n,AV.d (.tup (vs.set k v.clr)))::sx.r) sv.r t=br sx.r sv.r t:=fun t e=>by unfold br;simp only[lk];rw[aD e]
     have M:(br ((n,AV.d (.tup (vs.set k v.clr)))::sx.r) sv.r n).Sublist (br sx.r sv.r n):=by rw[x2,G,N,bW];exact jp (ct _) (jZ _ _)
     have hR:Rel A0 T F p (sv.c+i) ⟨(n,.d (.tup (vs.set k v.clr)))::sx.r,sx.B⟩ sv:=by
      refine⟨fun t y hy=> ?_,h.boxes,h.held.shrink (fun ℓ=> ?_) (fun a D _=>D) (fun _ hf=>hf),fun t e=> ?_,fun t e=> ?_,h.am⟩
      ·simp only[lk]at hy
       split at hy
       ·rename_i he;subst he
        simp at hy;subst hy
        exact⟨_,Q,by simp only[AV.fit,DV.fit];exact⟨_,rfl,_,rfl,x1⟩⟩
       ·exact h.regs t y hy
      ·cases ℓ with
       |reg t=>
        simp only[aU]
        by_cases e:t=n
        ·subst e;exact M
        ·rw[J t e];exact ct _
       |box j=>exact ct _
      ·have:t≠n:=by rintro rfl;rw[hn]at e;simp at e
       rw[J t this];exact h.nl t e
      ·simp only[lk]at e
       split at e
       ·simp at e
       ·exact h.no t e
     have m:=h.held.nodup (.reg n);simp only[aU]at m;rw[G,N,bW]at m;refine hR.put dst K (cf _) (fun _=>⟨?_,fun a D=> ?_⟩) (fun a D _=>D) (fun _ hi=> .inl hi) _
     ·exact(cL.1 (cL.1 m).2.1).1
     ·simp only[AV.own]at D
      have P:a∈aU sx.r sx.B sv.r sv.B (.reg n):=by simp only[aU];rw[G];exact g.subset D
      obtain⟨q1,q2,q3⟩:=h.held.opn _ a P;refine⟨q1,q2,fun hf=>q3 (hf.le (cf _)),fun ℓ _ C=> ?_⟩;cases ℓ with
      |reg t=>
       simp only[aU]at C
       by_cases e:t=n
       ·subst e
        rw[x2]at C;rw[cL]at m;obtain⟨_,n2,n3⟩:=m;rw[cL]at n2;rcases bu.1 C with C|C
        ·exact n3 a C a (by simp[D]) rfl
        ·exact n2.2.2 a D a C rfl
       ·rw[J t e]at C
        have:=h.held.apart (.reg n) (.reg t) a P C;simp at this;exact e this.symm
      |box j=>have:=h.held.apart (.reg n) (.box j) a P C;simp at this
 ·simp at hx
theorem LA(m:o.op.gen=true)(h:Rel A0 T F p (sv.c+i) sx sv)(hx:(bm sx.r o.op).map (fun v=>a9 T sx o.dst v.clr)=some sx')(e:b6 V p draw L0 i o sv=(bm sv.r o.op).map fun v=>sv.put o.dst v):eG A0 T F p V draw L0 i o sv sx':=by obtain⟨a,g,rfl⟩:=aN.1 hx;obtain⟨v,q,u⟩:=q2n h.er m g;refine em (sv:=sv) (s:=sv) (v:=v) (by rw[e,q];rfl) rfl ?_;exact h.put0 o.dst u (AV.qbM _ _) (cf _) _
theorem qvp{dst:bq}{arr:bq}(h:Rel A0 T F p (sv.c+i) sx sv)(hx:bf X lin T draw L0 ⟨dst,.indexAddr sz arr x y,gd,af⟩ sx=some sx'):eG A0 T F p V draw L0 i ⟨dst,.indexAddr sz arr x y,gd,af⟩ sv sx':=by
 have gen:(bm sx.r (.indexAddr sz arr x y)).map (fun v=>a9 T sx dst v.clr)=some sx'->eG A0 T F p V draw L0 i ⟨dst,.indexAddr sz arr x y,gd,af⟩ sv sx':=fun hx=>LA (o:=⟨dst,.indexAddr sz arr x y,gd,af⟩) (by rfl) h hx (by rfl)
 simp only[bf]at hx;unfold xg at hx;split at hx
 ·rename_i n hT
  split at hx
  ·rename_i g xs kd k h1 h2
   split at hx
   ·rename_i a3
    obtain⟨e,h4,h5⟩:=aK.1 hx;split at h5
    ·rename_i Y
     simp only[ca]at h5;subst h5;obtain⟨w,h3,R⟩:=h.get h1;have hy:=h.getInt h2;have ox:=eX h1 h3;simp only[AV.fit,DV.fit]at R;obtain⟨_,rfl,g',ys,rfl,u,hg⟩:=R;obtain⟨D,h6,h7⟩:=DV.qbZ u h4;have S:D.cells.length=sz:=by rw[DV.qbE h7];exact Y.1
     have a2:=DV.qbd h7;have Z:(AV.ep e.cells).fit (.ep D.cells):=by simp only[AV.fit];exact⟨_,rfl,a2⟩
     have M:DV.owns e.cells D.cells=e.own D:=DV.qdD h7;refine em (sv:=sv) (s:=sv) (v:= .ep D.cells) (by simp only[b6,bm,h3,hy,ay a3,h6,bO,ay (And.intro S Y.2),b7]) rfl ?_;have hk:k.toNat<xs.length:=(cW.1 h4).1;have I:(e.own D).Sublist (DV.owns xs ys):=DV.qb4 h4 h6;simp only[AV.own,DV.own]at ox;cases hn:T.contains n with
     |false=>simp only[bh,if_false];refine h.put0 dst Z ?_ (cf _) _;rw[tE,h.nl n hn]at ox;have:DV.owns xs ys=[]:=(List.append_eq_nil_iff.1 ox.symm).2;rw[this]at I;simp only[AV.own];rw[M];exact sb.1 I
     |true=>
      simp only[if_true];rw[tE]at ox;have H:ys.set k.toNat D=ys:=by
       apply oJ;intro j
       by_cases hj:k.toNat=j
       ·subst hj;rw[kx,h6];simp
       ·rw[jl hj]
      have x1:=CN u (i:=k.toNat) (DV.qc8 _ _ h7);have J:=qp u hk e.clr D;have x2:=qp u hk e D;have O:xs.set k.toNat e=xs:=by
       apply oJ;intro j
       by_cases hj:k.toNat=j
       ·subst hj;rw[kx,h4];simp
       ·rw[jl hj]
      rw[H]at x1 J;rw[H,O]at x2;rw[DV.qbM,cR]at J;have x3:br ((n,AV.d (.sl g (xs.set k.toNat e.clr)))::sx.r) sv.r n=(if g=U/\xs.length≠0 then g'.ids else [])++(DV.owns (xs.take k.toNat) (ys.take k.toNat)++DV.owns (xs.drop (k.toNat+1)) (ys.drop (k.toNat+1))):=by have a1:lk sv.r n=some (.d (.sl g' ys)):=h3;unfold br;rw[a1];simp only[lk,if_true,AV.own,DV.own,rW];rw[J]
      have K:∀t,t≠n->br ((n,AV.d (.sl g (xs.set k.toNat e.clr)))::sx.r) sv.r t=br sx.r sv.r t:=fun t m=>by unfold br;simp only[lk];rw[aD m]
      have Q:br sx.r sv.r n=(if g=U/\xs.length≠0 then g'.ids else [])++(DV.owns (xs.take k.toNat) (ys.take k.toNat)++(e.own D++DV.owns (xs.drop (k.toNat+1)) (ys.drop (k.toNat+1)))):=by rw[ox,x2,bW]
      have N:(br ((n,AV.d (.sl g (xs.set k.toNat e.clr)))::sx.r) sv.r n).Sublist (br sx.r sv.r n):=by rw[x3,Q];exact jp (ct _) (jp (ct _) (jZ _ _))
      have hR:Rel A0 T F p (sv.c+i) ⟨(n,.d (.sl g (xs.set k.toNat e.clr)))::sx.r,sx.B⟩ sv:=by
       refine⟨fun t y hy=> ?_,h.boxes,h.held.shrink (fun ℓ=> ?_) (fun a C _=>C) (fun _ R=>R),fun t m=> ?_,fun t m=> ?_,h.am⟩
       ·simp only[lk]at hy
        split at hy
        ·rename_i he;subst he
         simp at hy;subst hy
         exact⟨_,h3,by simp only[AV.fit,DV.fit];exact⟨_,rfl,g',ys,rfl,x1,by rw[rW];exact hg⟩⟩
        ·exact h.regs t y hy
       ·cases ℓ with
        |reg t=>
         simp only[aU]
         by_cases m:t=n
         ·subst m;exact N
         ·rw[K t m];exact ct _
        |box j=>exact ct _
       ·have:t≠n:=by rintro rfl;rw[hn]at m;simp at m
        rw[K t this];exact h.nl t m
       ·simp only[lk]at m
        split at m
        ·simp at m
        ·exact h.no t m
      have G:=h.held.nodup (.reg n);simp only[aU]at G;rw[Q]at G;rw[cL]at G;obtain⟨m1,m2,m3⟩:=G;rw[cL]at m2;obtain⟨p1,p2,p3⟩:=m2;rw[cL]at p2;refine hR.put dst Z (cf _) (fun _=>⟨?_,fun a C=> ?_⟩) (fun a C _=>C) (fun _ hi=> .inl hi) _
      ·simp only[AV.own];rw[M];exact p2.1
      ·simp only[AV.own]at C
       rw[M]at C;have P:a∈aU sx.r sx.B sv.r sv.B (.reg n):=by simp only[aU];rw[Q];simp[C]
       obtain⟨q1,q2,q3⟩:=h.held.opn _ a P;refine⟨q1,q2,fun R=>q3 (R.le (cf _)),fun ℓ _ q=> ?_⟩;cases ℓ with
       |reg t=>
        simp only[aU]at q
        by_cases m:t=n
        ·subst m
         rw[x3]at q;rcases bu.1 q with q|q
         ·exact m3 a q a (by simp[C]) rfl
         ·rcases bu.1 q with q|q
          ·exact p3 a q a (by simp[C]) rfl
          ·exact p2.2.2 a C a q rfl
        ·rw[K t m]at q
         have:=h.held.apart (.reg n) (.reg t) a P q;simp at this;exact m this.symm
       |box j=>have:=h.held.apart (.reg n) (.box j) a P q;simp at this
    ·simp at h5
   ·simp at hx
  ·simp at hx
 ·exact gen hx
end
theorem Ff(agg:Bool)(sz:Nat):∀(n:Nat) (cs ds xs:aw),DV.fits cs ds->chunks agg sz n cs=some xs->∃ys,chunks agg sz n ds=some ys/\DV.fits xs ys/\(∀e:DV,e∈ys->e.cells.length=sz)/\(DV.owns xs ys).Sublist (DV.owns cs ds)/\xs.length=n
 |0,cs,ds,xs,w,h=>by simp[chunks]at h;subst h;exact⟨[],rfl,by simp[DV.fits],by simp,by simp[DV.owns],rfl⟩
 |n+1,cs,ds,xs,w,h=>by
  simp only[chunks]at h;obtain⟨v,g,G⟩:=aK.1 h;split at G
  ·rename_i hc
   obtain⟨H,O,rfl⟩:=aN.1 G;obtain⟨u,m,r⟩:=N9 w g;obtain⟨ys,M,N,K,I,D⟩:=Ff agg sz n _ _ H (DV.qbu w sz) O;refine⟨u::ys,?_,by simp only[DV.fits];exact⟨_,_,rfl,r,N⟩,?_,?_,by simp[D]⟩
   ·simp only[chunks,m,bO]
    rw[ay ⟨by rw[DV.qbE r];exact hc.1,by rw[DV.qc7 (DV.qbd r)];exact hc.2⟩,M];rfl
   ·intro e C
    rcases cC.1 C with rfl|C
    ·rw[DV.qbE r];exact hc.1
    ·exact K e C
   ·simp only[DV.owns]
    rw[DV.qbY (DV.qao w) sz];refine jp ?_ I;unfold cut at g m;cases agg with
    |true=>
     simp only[if_true]at g m;split at g<;>simp at g
     split at m<;>simp at m
     subst g;subst m
     simp only[DV.own];exact ct _
    |false=>
     simp only[bh,if_false]at g m;rcases Nat.eq_zero_or_pos sz with J|q
     ·have:v.cells=[]:=ib.1 (by rw[hc.1,J])
      rw[<-DV.qdD r,this];simp[DV.owns]
     ·exact DV.qb4 (i:=0) (by rw[qx];simp[q,g]) (by rw[qx];simp[q,m])
  ·simp at G
def BF:az->az->Prop
 | [],ys=>ys=[]
 |b::bs,ys=>∃cs ds vs,b=some cs/\ys=some ds::vs/\AV.fits cs ds/\AV.owns cs ds=[]/\BF bs vs
theorem BF.append:∀{a c b d:az},BF a c->BF b d->BF (a++b) (c++d)
 | [],c,b,d,h,h'=>by simp only[BF]at h;subst h;exact h'
 |x::xs,c,b,d,h,h'=>by simp only[BF]at h;obtain⟨cs,ds,vs,rfl,rfl,g,m,e⟩:=h;simp only[c_,BF];exact⟨_,_,_,rfl,rfl,g,m,BF.append e h'⟩
theorem BF.len:∀{a c:az},BF a c->a.length=c.length
 | [],c,h=>by simp only[BF]at h;subst h;rfl
 |x::xs,c,h=>by simp only[BF]at h;obtain⟨cs,ds,vs,rfl,rfl,_,_,e⟩:=h;simp[e.len]
theorem BF.get:∀{a c:az},BF a c->∀i:Nat,i<a.length->∃cs ds,a[i]?=some (some cs)/\c[i]?=some (some ds)/\AV.fits cs ds/\AV.owns cs ds=[]
 | [],c,h,i,hi=>by simp at hi
 |x::xs,c,h,i,hi=>by
  simp only[BF]at h;obtain⟨cs,ds,vs,rfl,rfl,g,m,e⟩:=h;cases i with
  |zero=>exact⟨cs,ds,rfl,rfl,g,m⟩
  |succ i=>simpa using e.get i (by simpa using hi)
theorem BF.one(e:AV.fits cs ds)(g:AV.owns cs ds=[]):BF [some cs] [some ds]:=by simp only[BF];exact⟨_,_,_,rfl,rfl,e,g,rfl⟩
theorem qJe{x v:DV}(h:x.fit v):xA v=xA x:=by
 cases x<;>simp only[DV.fit]at h
 case agg cs=>obtain⟨ds,rfl,e⟩:=h;rfl
 case sl g xs=>obtain⟨g',ys,rfl,e,m⟩:=h;rfl
 case tup cs=>obtain⟨ds,rfl,e⟩:=h;rfl
 all_goals subst h;rfl
mutual
theorem ZV:∀(x v:DV),x.fit v->x.allU=true->∃l,v.names=some l/\l.Perm (x.own v)
 | .int k n,v,h,_=>by simp only[DV.fit]at h;subst h;exact⟨[],rfl,by simp[DV.own]⟩
 | .bool k,v,h,_=>by simp only[DV.fit]at h;subst h;exact⟨[],rfl,by simp[DV.own]⟩
 | .str k,v,h,_=>by simp only[DV.fit]at h;subst h;exact⟨[],rfl,by simp[DV.own]⟩
 | .tup vs,v,h,e=>by simp[DV.allU]at e
 | .agg cs,v,h,e=>by simp only[DV.fit]at h;obtain⟨ds,rfl,m⟩:=h;simp only[DV.allU]at e;simp only[DV.names,DV.own];exact Cl cs ds m e
 | .sl g [],v,h,_=>by simp only[DV.fit,DV.fits]at h;obtain⟨g',ys,rfl,rfl,_⟩:=h;exact⟨[],by cases g'<;>rfl,by simp[DV.own,DV.owns]⟩
 | .sl g (x::xs),v,h,e=>by
  simp only[DV.fit]at h;obtain⟨g',ys,rfl,m,w⟩:=h;simp only[DV.allU,cb,cA]at e;obtain⟨rfl,e⟩:=e;obtain⟨l,C,u⟩:=Cl (x::xs) ys m e;rcases w with q|⟨_,q⟩
  ·exact absurd q (by decide)
  rcases q with⟨r,_⟩|⟨r,a,sz,rfl,_⟩
  ·simp at r
  ·simp only[DV.fits]at m
   obtain⟨y,D,rfl,_,_⟩:=m;refine⟨l++[a],by simp only[DV.names,C,b7],?_⟩;simp only[DV.own];rw[ay ⟨trivial,r⟩];exact xz.trans (List.Perm.append (j5 _) u)
theorem Cl:∀(xs vs:aw),DV.fits xs vs->DV.allUs xs=true->∃l,DV.namess vs=some l/\l.Perm (DV.owns xs vs)
 | [],vs,h,_=>by simp only[DV.fits]at h;subst h;exact⟨[],rfl,by simp[DV.owns]⟩
 |x::xs,vs,h,e=>by simp only[DV.fits]at h;obtain⟨v,vs,rfl,m,C⟩:=h;simp only[DV.allUs,cb]at e;obtain⟨q,r,g⟩:=ZV x v m e.1;obtain⟨w,D,u⟩:=Cl xs vs C e.2;exact⟨q++w,by simp only[DV.namess,r,D,bO,b7],by simp only[DV.owns];exact List.Perm.append g u⟩
end
section
variable {A0:Ids} {T:ae} {F:Id->Prop} {p:Id} {sx sx':XS} {sv:St} {X:b_} {V:ci} {lin:Nat->ae} {draw:Bool} {L0 i:Nat}
theorem Rel.app(h:Rel A0 T F p k sx sv){q m:az}(D:BF q m):Rel A0 T F p k ⟨sx.r,sx.B++q⟩ {sv with B:=sv.B++m}:=by
 have G:=D.len;have e:=h.boxes.1;have u:qbL (sx.B++q) (sv.B++m):=by
  refine⟨by simp[e,G],fun i=> ?_⟩
  by_cases hi:i<sx.B.length
  ·rw[ed hi,ed (by rw[<-e];exact hi)];exact h.boxes.2 i
  ·rw[dB (by omega),dB (by rw[<-e];omega),e]
   rw[e]at hi
   by_cases g:i-sv.B.length<q.length
   ·obtain⟨cs,ds,w,C,I,H⟩:=D.get _ g
    rw[w,C];exact⟨by simp,fun J hc=>⟨ds,rfl,by simp at hc;subst hc;exact I⟩⟩
   ·rw[jf (by omega)];simp
 refine⟨h.regs,u,h.held.shrink (fun ℓ=> ?_) (fun a K _=>K) (fun _ M=>M),h.nl,h.no,h.am⟩;cases ℓ with
 |reg t=>exact ct _
 |box j=>
  simp only[aU,bH,cd]
  by_cases hi:j<sx.B.length
  ·rw[ed hi,ed (by rw[<-e];exact hi)];exact ct _
  ·rw[dB (by omega),dB (by rw[<-e];omega),e]
   rw[e]at hi
   by_cases g:j-sv.B.length<q.length
   ·obtain⟨cs,ds,w,C,I,H⟩:=D.get _ g
    rw[w,C];simp only[H];exact List.nil_sublist _
   ·rw[jf (by omega:q.length<=j-sv.B.length)]
    exact List.nil_sublist _
theorem f0(v u:AV)(t:Nat):br [(0,v)] [(0,u)] t=if t=0 then v.own u else []:=by unfold br;by_cases e:t=0<;>simp[lk,e]
end
section
variable {A0:Ids} {T:ae} {F:Id->Prop} {p:Id} {sx sx':XS} {sv:St} {X:b_} {V:ci} {lin:Nat->ae} {draw:Bool} {L0 i:Nat}
end
variable{live:ae}{na:Nat}
section
variable {A0:Ids} {T:ae} {F:Id->Prop} {p:Id} {sx sx':XS} {sv:St} {X:b_} {V:ci} {lin:Nat->ae} {draw:Bool} {L0 i:Nat}
theorem Uk(a1:jk X V lin){dst:bq}{iso:Bool}{f:VX}{args:cg}(h:Rel A0 T F p (sv.c+i) sx sv)(hx:bf X lin T draw L0 ⟨dst,.call iso f args,gd,af⟩ sx=some sx'):eG A0 T F p V draw L0 i ⟨dst,.call iso f args,gd,af⟩ sv sx':=by
 simp only[bf]at hx;split at hx
 ·rename_i k caps vs h1 h2
  obtain⟨fv,h3,h4⟩:=h.get h1;simp only[AV.fit]at h4;obtain⟨m,rfl,c1,hco⟩:=h4;obtain⟨w,h5,Y,hvl,hvo⟩:=Mv h h2;cases iso with
  |true=>
   simp only[if_true]at hx;split at hx
   ·rename_i ds hds
    split at hx
    ·rename_i v B G
     simp at hx;subst hx
     simp only[AV.fits]at c1;subst c1
     have H:=Nv (LP:=[]) Y 0;have hre:∀j,br (bA 0 (dp [] 0 vs)) (bA 0 w) j=[]:=by
      intro j;rw[sV,AD];cases vs[j]? with
      |none=>rfl
      |some a=>cases w[j]? with
       |none=>rfl
       |some b=>simp[AV.qbM]
     have R:∀ℓ,aU (bA 0 (dp [] 0 vs)) [] (bA 0 w) [] ℓ=[]:=by
      intro ℓ;cases ℓ with
      |reg t=>exact hre t
      |box j=>simp[aU,bH,cd]
     obtain⟨u,S,A1,hV,x1,_,M,x2⟩:=a1 k _ _ _ _ G ((sv.c+i)::p) w [] Ids.none (fun _=>False) H ⟨rfl,by simp⟩
      ⟨fun ℓ=>by rw[R];simp,fun ℓ ℓ' a e=>by rw[R]at e;simp at e,fun ℓ a e=>by rw[R]at e;simp at e,fun a e=>by simp at e⟩ (fun j _=>hre j) (fun a e=>by simp[Ids.none]at e)
     simp only[AV.fit]at x1;obtain⟨y,rfl,hfy⟩:=x1;obtain⟨es,hes,_,_⟩:=qT hds Y;have hown:∀a,a∈(AV.d v).own (.d y)->A1 a=true/\Fut ((sv.c+i)::p) 0 a:=by
      intro a e;have g:a∈aU [(0,AV.d v)] B [(0,.d y)] S (.reg 0):=by simp only[aU,f0];simpa using e
      refine⟨(M.opn _ a g).1,?_⟩;rcases x2 a (M.opn _ a g).1 with C|C
      ·simp[Ids.none]at C
      ·exact C
     refine em (sv:=sv) (s:={sv with A:=Ids.or A1 sv.A}) (v:= .d y) (by simp only[b6,h3,h5,if_true,hes,hV]) rfl ?_;refine h.put dst (by simp only[AV.fit];exact⟨_,rfl,hfy⟩) (cf _) (fun _=>⟨?_,fun a e=> ?_⟩) (fun a e _=>by simp[Ids.or,e]) (fun a e=>by
      simp only[Ids.or,iV]at e;rcases e with e|e
      ·rcases x2 a e with C|C
       ·simp[Ids.none]at C
       ·exact .inr ⟨C.sub.le (c7 _),C.qr3 (nQ _)⟩
      ·exact .inl e) _
     ·have:=M.nodup (.reg 0)
      simp only[aU,f0]at this;simpa using this
     ·obtain⟨K,I⟩:=hown a e
      exact⟨by simp[Ids.or,K],fun O=>(h.held.fr a O).2 I.sub,I.qr3 (nQ _),fun ℓ _ hm=>(h.held.opn ℓ a hm).2.2 I.sub⟩
    ·simp at hx
   ·simp at hx
  |false=>
   simp only[bh,if_false]at hx;split at hx
   ·rename_i a2
    split at hx
    ·rename_i v B G
     simp at hx;subst hx
     have H:=AV.qa5 (Nv (LP:=lin k) Y 0) c1;have N:=h.drops (dm (lin k) 0 args);have Q:(dp (lin k) 0 vs).length=w.length:=by rw[HR];exact AV.qao Y
     have Z:∀j,br (bA 0 (dp (lin k) 0 vs++caps)) (bA 0 (w++m)) j=[]\/∃x,args[j]?=some x/\(lin k).contains j=true/\br (bA 0 (dp (lin k) 0 vs++caps)) (bA 0 (w++m)) j=cw sx.r sv.r x:=by
      intro j;rw[sV]
      by_cases hj:j<w.length
      ·rw[ed (by rw[Q];exact hj),ed hj,AD]
       have hj2:j<vs.length:=by rw[AV.qao Y];exact hj
       have hj3:j<args.length:=by rw[<-hvl];exact hj2
       simp only[dM];rw[ft hj2,ft hj];simp only[b7];cases hc:(lin k).contains j with
       |false=>left;simp only[bh,if_false];exact AV.qbM _ _
       |true=>right;refine⟨args[j],by simp[hj3],rfl,?_⟩;simp only[if_true];exact hvo j _ _ _ (by simp[hj2]) (by simp[hj]) (by simp[hj3])
      ·left
       rw[dB (by rw[Q];omega),dB (by omega),Q];split
       ·rename_i a b e hb
        have:=AV.qb4 e hb;rw[hco]at this;exact sb.1 this
       ·rfl
     have J:∀j a,a∈br (bA 0 (dp (lin k) 0 vs++caps)) (bA 0 (w++m)) j->∃x,args[j]?=some x/\(lin k).contains j=true/\x∈dm (lin k) 0 args/\a∈cw sx.r sv.r x:=by
      intro j a e;rcases Z j with h0|⟨x,C,h7,h8⟩
      ·rw[h0]at e;simp at e
      ·exact⟨x,C,h7,EN _ args 0 j x C (by simpa using h7),by rw[<-h8];exact e⟩
     have q:∀t a,a∈br (du T sx.r (dm (lin k) 0 args)) sv.r t->a∈br sx.r sv.r t:=by
      intro t a e;rw[l8]at e;split at e
      ·simp at e
      ·exact e
     have b1:Held (fun a=>F a\/∃t,a∈br (du T sx.r (dm (lin k) 0 args)) sv.r t) (Fut ((sv.c+i)::p) 0) sv.A (aU (bA 0 (dp (lin k) 0 vs++caps)) sx.B (bA 0 (w++m)) sv.B):=by
      refine⟨fun ℓ=> ?_,fun ℓ ℓ' a e g=> ?_,fun ℓ a e=> ?_,fun a e=> ?_⟩
      ·cases ℓ with
       |reg j=>
        simp only[aU];rcases Z j with h0|⟨x,_,_,h8⟩
        ·rw[h0];simp
        ·rw[h8];exact h.qbm x
       |box j=>exact h.held.nodup (.box j)
      ·cases ℓ with
       |reg j=>
        obtain⟨x,g1,g2,g3,g4⟩:=J j a e;cases ℓ' with
        |reg P=>
         obtain⟨x',b2,c2,g3',x3⟩:=J P a g;rcases Nat.lt_trichotomy j P with hlt|heq|hgt
         ·exact absurd x3 (h.qf3 (HQ args 0 j P x x' a2 g1 b2 (by simpa using g2) (by simpa using c2) hlt) g4)
         ·rw[heq]
         ·exact absurd g4 (h.qf3 (HQ args 0 P j x' x a2 b2 g1 (by simpa using c2) (by simpa using g2) hgt) x3)
        |box P=>obtain⟨n,rfl,_,g5⟩:=h.qeF g4;have:=h.held.apart (.reg n) (.box P) a g5 g;simp at this
       |box j=>
        cases ℓ' with
        |reg P=>obtain⟨x',b2,c2,g3',x3⟩:=J P a g;obtain⟨n,rfl,_,g5⟩:=h.qeF x3;have:=h.held.apart (.reg n) (.box j) a g5 e;simp at this
        |box P=>exact h.held.apart (.box j) (.box P) a e g
      ·cases ℓ with
       |reg j=>
        obtain⟨x,g1,g2,g3,g4⟩:=J j a e;obtain⟨K,I,q3⟩:=h.qdC g4;refine⟨K,?_,fun D=>q3 D.sub⟩
        rintro(O|⟨t,ht⟩)
        ·exact I O
        ·exact h.qd6 g3 g4 (.reg t) ht
       |box j=>
        obtain⟨K,I,q3⟩:=h.held.opn (.box j) a e;refine⟨K,?_,fun D=>q3 D.sub⟩
        rintro(O|⟨t,ht⟩)
        ·exact I O
        ·have:=h.held.apart (.box j) (.reg t) a e (q t a ht)
         simp at this
      ·rcases e with O|⟨t,ht⟩
       ·exact⟨(h.held.fr a O).1,fun D=>(h.held.fr a O).2 D.sub⟩
       ·obtain⟨K,I,q3⟩:=h.held.opn (.reg t) a (q t a ht)
        exact⟨K,fun D=>q3 D.sub⟩
     obtain⟨u,S,A1,hV,x1,hbf,M,x2⟩:=a1 k _ _ _ _ G ((sv.c+i)::p) (w++m) sv.B sv.A _ H h.boxes b1 (fun j hj=>by
      rcases Z j with h0|⟨x,_,h7,_⟩
      ·exact h0
      ·rw[hj]at h7;simp at h7) (fun a e D=>(h.am a e).1 D.sub)
     have a3:∀a,A1 a=true->¬Fut p (sv.c+i+1) a/\(A0 a=true\/Fut p 0 a):=by
      intro a e;rcases x2 a e with C|C
      ·exact⟨fun D=>(h.am a C).1 (D.le (cf _)),(h.am a C).2⟩
      ·exact⟨C.qr3 (nQ _),.inr (C.sub.le (c7 _))⟩
     have hbase:Rel A0 T F p (sv.c+i+1) ⟨du T sx.r (dm (lin k) 0 args),B⟩ {sv with A:=A1,B:=S}:=by
      refine⟨N.regs,hbf,⟨fun ℓ=> ?_,fun ℓ ℓ' a e g=> ?_,fun ℓ a e=> ?_,fun a e=>⟨(M.fr a (.inl e)).1,fun D=>(h.held.fr a e).2 (D.le (cf _))⟩⟩,N.nl,N.no,a3⟩
      ·cases ℓ with
       |reg t=>exact N.held.nodup (.reg t)
       |box j=>exact M.nodup (.box j)
      ·cases ℓ with
       |reg t=>cases ℓ' with
        |reg t'=>exact N.held.apart (.reg t) (.reg t') a e g
        |box j=>exact absurd (.inr ⟨t,e⟩) (M.opn (.box j) a g).2.1
       |box j=>cases ℓ' with
        |reg t=>exact absurd (.inr ⟨t,g⟩) (M.opn (.box j) a e).2.1
        |box P=>exact M.apart (.box j) (.box P) a e g
      ·cases ℓ with
       |reg t=>obtain⟨K,I,q3⟩:=N.held.opn (.reg t) a e;exact⟨(M.fr a (.inr ⟨t,e⟩)).1,I,fun D=>q3 (D.le (cf _))⟩
       |box j=>obtain⟨K,I,q3⟩:=M.opn (.box j) a e;exact⟨K,fun O=>I (.inl O),(a3 a K).1⟩
     refine em (sv:=sv) (s:={sv with A:=A1,B:=S}) (v:=u) (by simp only[b6,h3,h5,bh,if_false,hV]) rfl ?_;refine hbase.put dst x1 (bN _) (fun _=>⟨?_,fun a e=> ?_⟩) (fun a e _=>e) (fun _ hi=> .inl hi) _
     ·have:=M.nodup (.reg 0)
      simp only[aU,f0]at this;simpa using this
     ·have g:a∈aU [(0,v)] B [(0,u)] S (.reg 0):=by simp only[aU,f0];simpa using e
      obtain⟨K,I,q3⟩:=M.opn (.reg 0) a g;refine⟨K,fun O=>I (.inl O),(a3 a K).1,fun ℓ _ hm=> ?_⟩;cases ℓ with
      |reg t=>exact I (.inr ⟨t,hm⟩)
      |box j=>have:=M.apart (.reg 0) (.box j) a g hm;simp at this
    ·simp at hx
   ·simp at hx
 ·simp at hx
theorem PM(e:jk X V lin)(g:o.linOK T=true)(h:Rel A0 T F p (sv.c+i) sx sv)(hx:bf X lin T draw L0 o sx=some sx'):eG A0 T F p V draw L0 i o sv sx':=by
 obtain⟨dst,op,gd,af⟩:=o;cases op with
 |move x=>exact qWL h hx
 |pick c a b=>exact Wu h hx
 |alloc k z=>exact Xs h hx
 |box k x=>exact q3J h hx
 |build z ps=>exact qSw h g hx
 |buildSlice sz z n ps=>exact Q_ h g hx
 |makeSlice k sz b z x=>exact Pr h hx
 |load ag sz x=>exact ZU h hx
 |store m sz a x=>exact NR h hx
 |storeN sz a x av=>exact P2 h hx
 |append sz b x y=>exact qL8 h g hx
 |call iso f args=>exact Uk e h hx
 |extract x k=>exact TO h hx
 |eqNil neg x=>simp[bf]at hx
 |indexAddr sz arr x y=>exact qvp h hx
 |_=>exact LA (by rfl) h hx (by rfl)
theorem Nz(h:Rel A0 T F p k sx sv){g:qG}{b:Bool}(e:g9 sx.r g=some b):g9 sv.r g=some b:=by
 cases g with
 |none=>exact e
 |some q=>
  obtain⟨t,C⟩:=q;simp only[g9]at e⊢
  split at e
  ·rename_i b' u
   obtain⟨v,w,m⟩:=h.regs t _ u;simp only[AV.fit,DV.fit]at m;obtain⟨_,rfl,rfl⟩:=m;rw[w];exact e
  ·rename_i u
   obtain⟨v,w,m⟩:=h.regs t _ u;simp only[AV.fit]at m;subst m;rw[w];exact e
  ·simp at e
theorem qE(e:jk X V lin):∀{os:aj} {i:Nat} {sx:XS} {sv:St},os.all (VOper.linOK T)=true->Rel A0 T F p (sv.c+i) sx sv->a7 X lin T draw L0 os sx=some sx'->
 ∃g,cS V p draw L0 i os sv=some g/\Rel A0 T F p (sv.c+i+os.length) sx' g/\g.c=sv.c
 | [],i,sx,sv,_,h,hx=>by simp[a7]at hx;subst hx;exact⟨sv,rfl,h,rfl⟩
 |o::os,i,sx,sv,r,h,hx=>by
  simp only[fW,cb]at r;simp only[a7]at hx;split at hx
  ·rename_i u
   obtain⟨s1,G,H⟩:=aK.1 hx;obtain⟨v1,I,D,m⟩:=PM e r.1 h G;obtain⟨v2,C,q,w⟩:=qE e (i:=i+1) r.2 (by rw[m];exact D) H;refine⟨v2,by simp only[cS,Nz h u,I,bO];exact C,?_,by rw[w,m]⟩;rw[m]at q;rw[cY,show sv.c+i+(os.length+1)=sv.c+(i+1)+os.length by omega];exact q
  ·rename_i u
   have D:Rel A0 T F p (sv.c+i+1) (a9 T sx o.dst .und) (sv.put o.dst .und):=by have:=h.put0 o.dst (a:= .und) (v:= .und) (by simp[AV.fit]) (by simp[AV.own]) (cf _) sv.c;rw[Ay]at this;exact this
   have m:(sv.put o.dst .und).c=sv.c:=B5 _ _;obtain⟨v2,C,q,w⟩:=qE e (i:=i+1) r.2 (by rw[m];exact D) hx;refine⟨v2,by simp only[cS,Nz h u];exact C,?_,by rw[w,m]⟩;rw[m]at q;rw[cY,show sv.c+i+(os.length+1)=sv.c+(i+1)+os.length by omega];exact q
  ·simp at hx
theorem ue(r:aI):∀(live:ae) (t:Nat),lk (keep r live) t=if t∈live then lk r t else none
 | [],t=>by simp[keep,lk]
 |a::l,t=>by
  simp only[keep];cases ha:lk r a with
  |none=>
   simp only;rw[ue r l]
   by_cases e:t=a
   ·subst e;simp[ha]
   ·simp[e]
  |some v=>
   simp only[lk]
   by_cases e:t=a
   ·subst e;simp[ha]
   ·simp only[aD e];rw[ue r l];simp[e]
theorem Hf(rx rv:aI)(live:ae)(t:Nat):br (keep rx live) (keep rv live) t=if t∈live then br rx rv t else []:=by
 unfold br;rw[ue,ue]
 by_cases e:t∈live
 ·simp only[ay e]
 ·simp only[aD e]
theorem Rel.keep(h:Rel A0 T F p k sx sv)(live:ae):Rel A0 T F p k ⟨keep sx.r live,sx.B⟩ {sv with r:=Go.Proofs.YtpcoohnjllclnaaGreat.VS.keep sv.r live}:=by
 refine⟨fun t x hx=> ?_,h.boxes,h.held.shrink (fun ℓ=> ?_) (fun a m _=>m) (fun _ q=>q),fun t g=> ?_,fun t g=> ?_,h.am⟩
 ·simp only[ue]at hx⊢
  split at hx
  ·rename_i e;rw[ay e];exact h.regs t x hx
  ·simp at hx
 ·cases ℓ with
  |reg t=>simp only[aU,Hf];split<;>simp
  |box j=>exact ct _
 ·simp only[Hf];split
  ·exact h.nl t g
  ·rfl
 ·simp only[ue]at g⊢
  split at g
  ·rename_i e;rw[ay e];exact h.no t g
  ·rename_i e;rw[aD e]
theorem Rel.more(h:Rel A0 T F p k sx sv)(n:Nat):Rel A0 T F p k ⟨sx.r,sx.B++List.replicate n none⟩ {sv with B:=sv.B++List.replicate n none}:=by
 refine⟨h.regs,h.boxes.more n,h.held.shrink (fun ℓ=> ?_) (fun a e _=>e) (fun _ g=>g),h.nl,h.no,h.am⟩;cases ℓ with
 |reg t=>exact ct _
 |box j=>simp only[aU,bH,qKC];exact ct _
theorem Rel.cut(h:Rel A0 T F p k sx sv)(n:Nat):Rel A0 T F p k ⟨sx.r,sx.B.take n⟩ {sv with B:=sv.B.take n}:=by
 refine⟨h.regs,h.boxes.take n,h.held.shrink (fun ℓ=> ?_) (fun a g _=>g) (fun _ m=>m),h.nl,h.no,h.am⟩;cases ℓ with
 |reg t=>exact ct _
 |box j=>
  simp only[aU,bH,w_]
  by_cases e:j<n
  ·simp[e]
  ·simp[e]
theorem Rel.at{c':Nat}(h:Rel A0 T F p k sx sv)(e:k<=k'):Rel A0 T F p k' sx {sv with c:=c'}:=by have:=h.next e;exact⟨this.regs,this.boxes,this.held,this.nl,this.no,this.am⟩
theorem Xx(g:jk X V lin){draw:Bool}{ops:aj}(u:ops.all (VOper.linOK T)=true)(h:Rel A0 T F p sv.c sx sv)(hx:kV X lin T draw na live ops sx=some sx'):
 ∃e,nr V p draw na live ops sv=some e/\Rel A0 T F p e.c sx' e:=by
 unfold kV at hx;split at hx
 ·simp at hx
 ·rename_i D
  obtain⟨s1,w,rfl⟩:=aN.1 hx;have G:=h.more na;obtain⟨v1,m,q,C⟩:=qE g (i:=0) (sv:={sv with B:=sv.B++List.replicate na none}) u (by simpa using G) w;rw[h.boxes.1]at m;simp only at q C;refine⟨{v1 with r:=keep v1.r live,c:=sv.c+ops.length},by unfold nr;rw[aD D,m];rfl,?_⟩;have:=(q.keep live).at (k':=sv.c+ops.length) (c':=sv.c+ops.length) (by omega);exact this
theorem Gs(h:Rel A0 T F p k sx sv)(m:Nat):∀live:ae,aB m (keep sx.r live)=true->aB m (keep sv.r live)=true
 | [],_=>rfl
 |t::ts,e=>by
  simp only[Go.Proofs.YtpcoohnjllclnaaGreat.VS.keep]at e⊢
  cases ht:lk sx.r t with
  |none=>rw[ht]at e;rw[h.no t ht];exact Gs h m ts e
  |some x=>
   rw[ht]at e;obtain⟨v,g,q⟩:=h.regs t x ht;rw[g];simp only[aB,cb]at e⊢
   exact⟨by rw[AV.qlX _ _ _ q];exact e.1,Gs h m ts e.2⟩
theorem qAW{g:Nat}(h:Rel A0 T F p sv.c sx sv)(hx:aA g live sx=some sx'):∃e,Ia g live sv=some e/\Rel A0 T F p e.c sx' e:=by
 unfold aA at hx;split at hx
 ·rename_i hc
  simp at hx;subst hx
  refine⟨{sv with r:=keep sv.r live,B:=sv.B.take g},?_,(h.keep live).cut g⟩;unfold Ia;simp only;rw[ay ⟨Gs h g live hc.1,by rw[<-h.boxes.1];exact hc.2⟩]
 ·simp at hx
theorem QY{f:XS->dD}{g:St->wV}(u:∀sx sv e sx',Rel A0 T F p sv.c sx sv->f sx=some (e,sx')->∃m,g sv=some (e,m)/\Rel A0 T F p m.c sx' m)(w:Nat)(live:ae):
 ∀n sx sv e sx',Rel A0 T F p sv.c sx sv->fu f w live n sx=some (e,sx')->∃m,pJ g w live n sv=some (e,m)/\Rel A0 T F p m.c sx' m:=by
 intro n
 induction n with
 |zero=>intro sx sv e sx' h hx;simp[fu]at hx
 |succ n G=>
  intro sx sv e sx' h hx;simp only[fu]at hx;obtain⟨s0,C,D⟩:=aK.1 hx;obtain⟨⟨K,s1⟩,M,q⟩:=aK.1 D;obtain⟨N,H,I⟩:=qAW h C;obtain⟨v1,J,r⟩:=u _ _ _ _ I M;simp only[pJ,H,J,bO];cases K with
  |normal=>exact G _ _ _ _ r q
  |exit id=>simp at q;obtain⟨rfl,rfl⟩:=q;exact⟨v1,rfl,r⟩
  |ret=>simp at q;obtain⟨rfl,rfl⟩:=q;exact⟨v1,rfl,r⟩
theorem Rel.getB(h:Rel A0 T F p k sx sv){b:Bool}(hx:bj sx.r x=some (au b)):x.get sv.r=some (au b):=by obtain⟨v,g,e⟩:=h.get hx;simp only[AV.fit,DV.fit]at e;obtain⟨y,rfl,rfl⟩:=e;exact g
end
theorem HD:∀{xs vs:aw},DV.fits xs vs->DV.fits (xs.flatMap DV.cells) (vs.flatMap DV.cells)/\DV.owns (xs.flatMap DV.cells) (vs.flatMap DV.cells)=DV.owns xs vs
 | [],vs,h=>by simp only[DV.fits]at h;subst h;simp[DV.fits,DV.owns]
 |x::xs,vs,h=>by simp only[DV.fits]at h;obtain⟨v,vs,rfl,e,m⟩:=h;obtain⟨g,q⟩:=HD m;simp only[mt];exact⟨DV.qa5 (DV.qbd e) g,by rw[DV.qaY (DV.qao (DV.qbd e)),DV.qdD e,q];simp only[DV.owns]⟩
theorem qN1{c c' r e:DV}(q:c.fit c')(m:r.fit e):c'.like e=c.like r:=by
 have sh:∀{x v:DV},x.fit v->(∃g g' xs ys,x= .sl g xs/\v= .sl g' ys)\/(∃xs ys,x= .agg xs/\v= .agg ys)\/(∃xs ys,x= .tup xs/\v= .tup ys)\/v=x:=by
  intro x v h;cases x<;>simp only[DV.fit]at h
  case sl g xs=>obtain⟨g',ys,rfl,_⟩:=h;exact .inl ⟨_,_,_,_,rfl,rfl⟩
  case agg xs=>obtain⟨ys,rfl,_⟩:=h;exact .inr (.inl ⟨_,_,rfl,rfl⟩)
  case tup xs=>obtain⟨ys,rfl,_⟩:=h;exact .inr (.inr (.inl ⟨_,_,rfl,rfl⟩))
  all_goals exact .inr (.inr (.inr h))
 rcases sh q with⟨_,_,_,_,rfl,rfl⟩|⟨_,_,rfl,rfl⟩|⟨_,_,rfl,rfl⟩|rfl<;>rcases sh m with⟨_,_,_,_,rfl,rfl⟩|⟨_,_,rfl,rfl⟩|⟨_,_,rfl,rfl⟩|rfl<;>
  first|rfl|(cases e<;>rfl)|(cases c'<;>rfl)|(cases c'<;>cases e<;>rfl)
variable{rs:aw}
theorem TQ{rv:aw}(G:DV.fits rs rv)(h:DV.fits xs vs)(H:xs.any (fun c=>rs.all fun r=> !c.like r)=true):vs.any (fun c=>rv.all fun r=> !c.like r)=true:=by
 obtain⟨c,hc,q⟩:=List.any_eq_true.1 H;obtain⟨i,hi⟩:=jN.1 hc;obtain⟨c',C,I⟩:=DV.qbZ h hi;refine List.any_eq_true.2 ⟨c',ow C,cm.2 fun K u=> ?_⟩;obtain⟨k,D⟩:=jN.1 u;have m:k<rs.length:=by rw[DV.qao G];exact(cW.1 D).1
 have g:rs[k]?=some rs[k]:=by simp[m]
 obtain⟨J,e,w⟩:=DV.qbZ G g;rw[D]at e;simp only[ca]at e;subst e
 rw[qN1 I w];exact cm.1 q _ (ow g)
mutual
theorem KY{A:Ids}{a:Id}{rs rv:aw}(r:DV.fits rs rv):∀(x v:DV),x.fit v->x.xrest rs=true->(∀b,b∈x.own v->A b=true/\b≠a)->v.rest A a rv=true
 | .int k n,v,h,_,_=>by simp only[DV.fit]at h;subst h;simp only[DV.rest]
 | .bool b,v,h,_,_=>by simp only[DV.fit]at h;subst h;simp only[DV.rest]
 | .str s,v,h,_,_=>by simp only[DV.fit]at h;subst h;simp only[DV.rest]
 | .agg cs,v,h,hx,m=>by simp only[DV.fit]at h;obtain⟨ds,rfl,e⟩:=h;simp only[DV.xrest]at hx;simp only[DV.rest];exact DY r cs ds e hx (by simpa only[DV.own]using m)
 | .tup cs,v,h,hx,m=>by simp only[DV.fit]at h;obtain⟨ds,rfl,e⟩:=h;simp only[DV.xrest]at hx;simp only[DV.rest];exact DY r cs ds e hx (by simpa only[DV.own]using m)
 | .sl g xs,v,h,hx,m=>by
  simp only[DV.fit]at h;obtain⟨g',ys,rfl,e,G⟩:=h;simp only[DV.xrest,cb,iV,cA]at hx;obtain⟨q,D⟩:=hx;simp only[DV.own]at m;simp only[DV.rest,cb,iV];refine⟨?_,DY r xs ys e D fun b C=>m b (qW _ C)⟩;rcases q with(q|q)|q
  ·left;left
   have:xs=[]:=by simpa using q
   subst this;simp only[DV.fits]at e;subst e;rfl
  ·exact .inl (.inr (TQ r (HD e).1 q))
  ·subst q
   rcases G with w|⟨_,w⟩
   ·exact absurd w (by decide)
   ·rcases w with⟨u,_⟩|⟨u,b,sz,rfl,_⟩
    ·left;left
     have:xs=[]:=ib.1 u;subst this;simp only[DV.fits]at e;subst e;rfl
    ·right
     obtain⟨H,I⟩:=m b (oq _ (by rw[ay ⟨rfl,u⟩];simp[Tag.ids]));simp[H,I]
theorem DY{A:Ids}{a:Id}{rs rv:aw}(m:DV.fits rs rv):∀(xs vs:aw),DV.fits xs vs->DV.xrests rs xs=true->(∀b,b∈DV.owns xs vs->A b=true/\b≠a)->DV.rests A a rv vs=true
 | [],vs,h,_,_=>by simp only[DV.fits]at h;subst h;simp only[DV.rests]
 |x::xs,vs,h,hx,e=>by simp only[DV.fits]at h;obtain⟨v,vs,rfl,q,r⟩:=h;simp only[DV.xrests,cb]at hx;simp only[DV.owns]at e;simp only[DV.rests,cb];exact⟨KY m x v q hx.1 fun b g=>e b (oq _ g),DY m xs vs r hx.2 fun b g=>e b (qW _ g)⟩
end
theorem Np{rv:aw}(m:DV.fits rs rv)(x v:AV)(h:x.fit v)(hx:x.xrest rs=true)(g:∀b,b∈x.own v->A b=true/\b≠a):v.rest A a rv=true:=by
 cases x with
 |d x=>simp only[AV.fit]at h;obtain⟨y,rfl,e⟩:=h;exact KY m x y e hx g
 |ptr i o=>simp only[AV.fit]at h;subst h;rfl
 |nilp=>simp only[AV.fit]at h;subst h;rfl
 |bsl id ag i sz n=>simp only[AV.fit]at h;obtain⟨_,rfl⟩:=h;rfl
 |tsl ag i sz n=>simp only[AV.fit]at h;subst h;rfl
 |und=>simp only[AV.fit]at h;subst h;rfl
 |fn f cap=>
  cases cap with
  |nil=>simp only[AV.fit,AV.fits]at h;obtain⟨_,rfl,rfl,_⟩:=h;rfl
  |cons c r=>simp[AV.xrest]at hx
 |ep cs=>simp[AV.xrest]at hx
 |ag t cs=>simp[AV.xrest]at hx
theorem Jl{rv:aw}(m:DV.fits rs rv):∀(xs vs:aH),AV.fits xs vs->xs.all (AV.xrest rs)=true->(∀b,b∈AV.owns xs vs->A b=true/\b≠a)->vs.all (AV.rest A a rv)=true
 | [],vs,h,_,_=>by simp only[AV.fits]at h;subst h;rfl
 |x::xs,vs,h,hx,e=>by
  simp only[AV.fits]at h;obtain⟨v,vs,rfl,q,r⟩:=h;simp only[fW,cb]at hx⊢
  simp only[AV.owns]at e;exact⟨Np m x v q hx.1 fun b g=>e b (oq _ g),Jl m xs vs r hx.2 fun b g=>e b (qW _ g)⟩
theorem SY{own:Loc->eP}(h:Held F Fu A own)(φ:Loc->Loc)(e:∀ℓ,(own' ℓ).Sublist (own (φ ℓ)))(hφ:∀ℓ ℓ',own' ℓ≠[]->own' ℓ'≠[]->φ ℓ=φ ℓ'->ℓ=ℓ')
 (w:∀x,A x=true->(F x\/∃ℓ,x∈own' ℓ)->A' x=true):Held F Fu A' own':=by
 refine⟨fun ℓ=>(h.nodup _).sublist (e ℓ),fun ℓ ℓ' a g m=> ?_,fun ℓ a g=> ?_,fun a g=> ?_⟩
 ·exact hφ ℓ ℓ' (fun q=>by rw[q]at g;simp at g) (fun q=>by rw[q]at m;simp at m) (h.apart _ _ a ((e ℓ).subset g) ((e ℓ').subset m))
 ·obtain⟨r,u,C⟩:=h.opn _ a ((e ℓ).subset g)
  exact⟨w a r (.inr ⟨ℓ,g⟩),u,C⟩
 ·obtain⟨r,u⟩:=h.fr a g
  exact⟨w a r (.inl g),u⟩
section
variable {A0:Ids} {T:ae} {F:Id->Prop} {p:Id} {sx sx':XS} {sv:St}
theorem Hu(h:Rel A0 T F p k sx sv){rv:aw}(q:DV.fits rs rv):∀(live:ae),oC rs (keep sx.r live)=true->(∀t,t∈live->∀b,b∈br sx.r sv.r t->sv.A b=true/\b≠a)->FJ sv.A a rv (keep sv.r live)=true
 | [],_,_=>rfl
 |t::ts,hx,g=>by
  simp only[Go.Proofs.YtpcoohnjllclnaaGreat.VS.keep]at hx⊢
  cases ht:lk sx.r t with
  |none=>rw[ht]at hx;rw[h.no t ht];exact Hu h q ts hx fun m e=>g m (jg _ e)
  |some x=>
   obtain⟨v,u,C⟩:=h.regs t x ht;rw[ht]at hx;rw[u];simp only[oC,FJ,fW,cb]at hx⊢
   refine⟨Np q x v C hx.1 fun b w=>g t (by simp) b (by unfold br;rw[ht,u];exact w),Hu h q ts hx.2 fun m e=>g m (jg _ e)⟩
theorem UH{B:az}{rv:aw}(G:DV.fits rs rv)(g:qbL B Bv)(hx:lR rs B=true)(D:∀j b,b∈bH B Bv j->A b=true/\b≠a):MV A a rv Bv=true:=by
 refine cm.2 fun q h=> ?_
 obtain⟨i,hi⟩:=jN.1 h;cases q with
 |none=>rfl
 |some ds=>
  have r:i<B.length:=by rw[g.1];exact(cW.1 hi).1
  have e:B[i]?=some B[i]:=by simp[r]
  cases h:B[i]with
  |none=>rw[h]at e;have:=(g.2 i).1 e;rw[hi]at this;simp at this
  |some cs=>
   rw[h]at e;obtain⟨u,m,w⟩:=(g.2 i).2 cs e;rw[hi]at m;simp only[ca]at m;subst m
   have C:=cm.1 hx _ (ow e);refine Jl G cs ds w C fun b g=>D i b ?_
   unfold bH cd;rw[e,hi];exact g
theorem qT5{x v:DV}{g':Tag}(h:(DV.sl U (x::xs)).fit (.sl g' (v::vs))):∃a sz,g'= .own a sz/\x.cells.length=sz/\xA v=xA x/\vs.length=xs.length/\
 (DV.sl U (x::xs)).own (.sl g' (v::vs))=a::DV.owns (x::xs) (v::vs)/\DV.fits (x::xs) (v::vs):=by
 simp only[DV.fit]at h;obtain⟨I,ys,e,g,D⟩:=h;simp only[DV.sl.injEq]at e;obtain⟨rfl,rfl⟩:=e;rcases D with q|⟨_,q⟩
 ·exact absurd q (by decide)
 ·rcases q with⟨r,_⟩|⟨r,a,sz,rfl,C⟩
  ·simp at r
  ·have m:=g
   simp only[DV.fits]at g;obtain⟨w,H,e,u,G⟩:=g;simp only[List.cons.injEq]at e;obtain⟨rfl,rfl⟩:=e;refine⟨a,sz,rfl,by rw[<-DV.qbE u];exact C v (by simp),qJe u,(DV.qao G).symm,?_,m⟩;simp only[DV.own];rw[ay ⟨trivial,r⟩];rfl
end
variable{s1:XS}{f1 f2 f3:ae}{d3 d1 d2:Nat}
section
variable {A0:Ids} {T:ae} {F:Id->Prop} {p:Id} {sx sx':XS} {sv:St} {X:b_} {V:ci} {lin:Nat->ae} {draw:Bool} {L0 i:Nat}
theorem Rel.over(h:Rel A0 T F p k sx sv)(d:Nat){sx1:XS}(ℓ0:Loc)
 (g:∀t x,lk sx1.r t=some x->∃v,lk sv.r t=some v/\x.fit v) (m:qbL sx1.B sv.B)
 (e:∀ℓ,(aU sx1.r sx1.B sv.r sv.B ℓ).Sublist (aU sx.r sx.B sv.r sv.B ℓ)) (C:∀t,lk sx1.r t=none->lk sx.r t=none)
{a:AV}(q:a.fit v) (D:(a.own v).Nodup) (w:∀j,j∈a.own v->j∈aU sx.r sx.B sv.r sv.B ℓ0/\j∉aU sx1.r sx1.B sv.r sv.B ℓ0)(H:k<=k') (c':Nat):
 Rel A0 T F p k' (a9 T sx1 (some d) a) {(sv.put (some d) v)with c:=c'}:=by
 have K:Rel A0 T F p k sx1 sv:=by refine⟨g,m,h.held.shrink e (fun a J _=>J) (fun _ q=>q),fun t u=> ?_,fun t u=>h.no t (C t u),h.am⟩;have:=e (.reg t);simp only[aU]at this;rw[h.nl t u]at this;exact sb.1 this
 refine K.put (some d) q H (fun _=>⟨D,fun j P=> ?_⟩) (fun i hi _=>hi) (fun _ hi=> .inl hi) c';obtain⟨G,O⟩:=w j P;obtain⟨N,M,Q⟩:=h.held.opn ℓ0 j G;refine⟨N,M,fun q=>Q (q.le H),fun ℓ _ I=> ?_⟩;have:=h.held.apart ℓ0 ℓ j G ((e ℓ).subset I);subst this;exact O I
theorem wP(call:ci)(p:Id)(draw:Bool)(L0:Nat):∀(a b:aj) (i:Nat) (s:St),cS call p draw L0 i (a++b) s=(cS call p draw L0 i a s).bind (cS call p draw L0 (i+a.length) b)
 | [],b,i,s=>by simp[cS]
 |o::a,b,i,s=>by
  simp only[c_,cS];split
  ·cases b6 call p draw L0 i o s with
   |none=>rfl
   |some s1=>simp only[bO];rw[wP call p draw L0 a b];rw[cY,Nat.add_assoc,E6 1]
  ·rw[wP call p draw L0 a b];rw[cY,Nat.add_assoc,E6 1]
  ·rfl
theorem PU(h:DV.fits xs ys)(l b:Nat):DV.fits (fX xs l b) ys:=by
 have e:ys=((ys.take b).take l++(ys.take b).drop l)++ys.drop b:=by rw[dK,dK]
 rw[e];unfold fX;exact DV.qa5 (DV.qa5 (DV.qbo (DV.qbo h b) l) (DV.qbD _ _ (DV.qbu (DV.qbo h b) l))) (DV.qbu h b)
theorem Kw(l b:Nat):(fX xs l b).length=xs.length:=by unfold fX;simp only[cD,DV.qcx];rw[<-cD,dK,<-cD,dK]
theorem Nm(h:DV.fits xs ys)(l b:Nat):DV.owns (fX xs l b) ys=DV.owns ((xs.take b).take l) ((ys.take b).take l)++DV.owns (xs.drop b) (ys.drop b):=by
 have e:ys=((ys.take b).take l++(ys.take b).drop l)++ys.drop b:=by rw[dK,dK]
 conv=>lhs;rw[e]
 unfold fX;have g:=DV.qbo (DV.qbo h b) l;have m:=DV.qbu (DV.qbo h b) l;rw[DV.qaY (by simp[DV.qao g,DV.qao m,DV.qcx];omega),DV.qaY (DV.qao g),DV.qfy,cR]
theorem Fy(h:DV.fits xs ys)(l b:Nat):DV.owns xs ys=DV.owns ((xs.take b).take l) ((ys.take b).take l)++(DV.owns ((xs.take b).drop l) ((ys.take b).drop l)++DV.owns (xs.drop b) (ys.drop b)):=by have e:=DV.qao h;rw[DV.qbY e b,DV.qbY (a:=xs.take b) (c:=ys.take b) (by simp[e]) l,bW]
def FE(A0:Ids)(T:ae)(F:Id->Prop)(p:Id)(V:ci)(draw:Bool)(L0 i:Nat)(f:FOper)(sv:St)(sx':XS):Prop:=∃e,cS V p draw L0 i (f.pre++f.post) sv=some e/\Rel A0 T F p (sv.c+i+(f.pre++f.post).length) sx' e/\e.c=sv.c
theorem ZW(h:DV.fits xs ys)(hx:xs.all (fun e=>decide (e.cells.length=sz))=true):ys.all (fun e=>decide (e.cells.length=sz))=true:=KR (DV.qbD _ _ h) hx
theorem q7V(R:jk X V lin){a:Nat}{b:VX}{lo hi:nL}(hl:(FOper.sl d1 a d2 b d3 sz lo hi f1 f2 f3).pre.all (VOper.linOK T)=true)(h:Rel A0 T F p (sv.c+i) sx sv)
 (h1:a7 X lin T draw L0 (FOper.sl d1 a d2 b d3 sz lo hi f1 f2 f3).pre sx=some s1) (hx:i9 T (.sl d1 a d2 b d3 sz lo hi f1 f2 f3) s1=some sx'):FE A0 T F p V draw L0 i (.sl d1 a d2 b d3 sz lo hi f1 f2 f3) sv sx':=by
 obtain⟨sv1,e1,M,c1⟩:=qE R hl h h1;simp only[i9]at hx;split at hx
 ·rename_i g xs h5 h4 k1 k2 k3
  split at hx
  ·rename_i hc
   obtain⟨⟨ha,h3,n1,n2,n3⟩,Q⟩:=hc;obtain⟨e,q1,hx⟩:=aK.1 hx;obtain⟨q,q2,hx⟩:=aN.1 hx;subst hx;have J:lk sv1.r d1=lk sv1.r a:=by
    simp only[FOper.pre,cS,g9,b6,bm]at e1;obtain⟨t1,e2,e3⟩:=aK.1 e1;obtain⟨va,e4,rfl⟩:=aN.1 e2;obtain⟨t2,e5,e6⟩:=aK.1 e3;obtain⟨vb,e7,rfl⟩:=aN.1 e5;simp only[ca]at e6;subst e6
    simp only[VX.get]at e4;simp only[St.put,lk,aD n3,aD (Ne.symm n1),aD (Ne.symm n2),if_true];exact e4.symm
   obtain⟨w,Z,kf⟩:=M.regs a _ k1;have N:=kf;simp only[AV.fit,DV.fit]at N;obtain⟨_,rfl,g',ys,rfl,m,hg⟩:=N;have O:=DV.qao m;obtain⟨lv,m1,m2,m3⟩:=tm M.er k2;obtain⟨hv,m4,m5,m6⟩:=tm M.er k3;have z1:gL ys.length hv=some e:=by rw[<-O,Gb m5 m6];exact q1
   have z2:gB e lv=some q:=by rw[Hc m2 m3];exact q2
   have ev:cS V p draw L0 (i+2) [⟨some d3,.slice false sz (.t d1) lo hi,none,f3⟩] sv1=some (sv1.put (some d3) (.d (.sl (if g'= .nil then .nil else .sub) ((ys.take e).drop q)))):=by simp only[cS,g9,b6,bm,VX.get,J,Z,m1,m4];rw[ay (ZW m Q),z1];simp only[bO,z2,b7]
   refine⟨_,by rw[wP,e1];exact ev,?_,by rw[B5,c1]⟩;have u:br s1.r sv1.r a=(if g=U/\xs.length≠0 then g'.ids else [])++DV.owns xs ys:=by unfold br;rw[k1,Z];simp only[AV.own,DV.own]
   have C:br ((a,AV.d (.sl g (fX xs q e)))::s1.r) sv1.r a=(if g=U/\xs.length≠0 then g'.ids else [])++DV.owns (fX xs q e) ys:=by unfold br;rw[Z];simp only[lk,if_true,AV.own,DV.own,Kw]
   have h2:∀t,t≠a->br ((a,AV.d (.sl g (fX xs q e)))::s1.r) sv1.r t=br s1.r sv1.r t:=fun t D=>by unfold br;simp only[lk];rw[aD D]
   have K:=M.held.nodup (.reg a);simp only[aU]at K;rw[u,Fy m q e]at K;obtain⟨u1,u2,u3⟩:=cL.1 K;obtain⟨v1,v2,v3⟩:=cL.1 u2;obtain⟨w1,w2,w3⟩:=cL.1 v2;have P:(AV.d (.sl .sub ((xs.take e).drop q))).own (.d (.sl (if g'= .nil then .nil else .sub) ((ys.take e).drop q)))=DV.owns ((xs.take e).drop q) ((ys.take e).drop q):=by simp[AV.own,DV.own,U]
   have I:=M.over d3 (sx1:=⟨(a,AV.d (.sl g (fX xs q e)))::s1.r,s1.B⟩) (.reg a) (a:= .d (.sl .sub ((xs.take e).drop q))) (v:= .d (.sl (if g'= .nil then .nil else .sub) ((ys.take e).drop q)))
    (fun t x G=>by
     simp only[lk]at G;split at G
     ·rename_i D;subst D
      simp only[ca]at G;subst G
      refine⟨_,Z,?_⟩;simp only[AV.fit,DV.fit];exact⟨_,rfl,_,_,rfl,PU m q e,by rw[Kw];exact hg⟩
     ·exact M.regs t x G)
    M.boxes
    (fun ℓ=>by
     cases ℓ with
     |box j=>exact ct _
     |reg t=>
      simp only[aU]
      by_cases D:t=a
      ·subst D
       rw[u,C,Nm m,Fy m q e];exact jp (ct _) (jp (ct _) (jZ _ _))
      ·rw[h2 t D];exact ct _)
    (fun t D=>by
     simp only[lk]at D;split at D
     ·simp at D
     ·exact D)
    (by simp only[AV.fit,DV.fit];exact⟨_,rfl,_,_,rfl,DV.qbu (DV.qbo m e) q,Tag.qVT _ _ _⟩)
    (by rw[P];exact w1)
    (fun j S=>by
     rw[P]at S;simp only[aU];rw[u,C,Nm m,Fy m q e];refine⟨by simp[S],fun H=> ?_⟩;rcases bu.1 H with H|H
     ·exact u3 j H j (by simp[S]) rfl
     ·rcases bu.1 H with H|H
      ·exact v3 j H j (by simp[S]) rfl
      ·exact w3 j S j H rfl)
    (k':=sv.c+i+3) (by simp[FOper.pre]) sv.c
   have Y:({(sv1.put (some d3) (.d (.sl (if g'= .nil then .nil else .sub) ((ys.take e).drop q))))with c:=sv.c}:St)=sv1.put (some d3) (.d (.sl (if g'= .nil then .nil else .sub) ((ys.take e).drop q))):=by rw[<-c1,Ay]
   rw[Y]at I;simpa[FOper.pre,FOper.post]using I
  ·simp at hx
 ·simp at hx
theorem OY(h:AV.fits cs ds)(e:ds[k]?=some v)(x:AV):AV.owns (cs.set k x) ds=AV.owns (cs.take k) (ds.take k)++(x.own v++AV.owns (cs.drop (k+1)) (ds.drop (k+1))):=by
 have g:=AV.qao h;have u:k<ds.length:=(cW.1 e).1;have q:cs.set k x=cs.take k++(x::cs.drop (k+1)):=by rw[F7,ay (by omega)]
 have r:ds=ds.take k++(v::ds.drop (k+1)):=by
  have m:ds[k]=v:=(cW.1 e).2
  conv=>lhs;rw[<-List.take_append_drop k ds,dV u,m]
 rw[q]
 conv=>lhs;rw[r]
 rw[AV.qaY (by simp[g])];rfl
theorem qKR{l:aH}(h:l[k]?=some v):l.set k v=l:=by
 apply oJ;intro j
 by_cases e:k=j
 ·subst e;rw[kx,h];simp
 ·rw[jl e]
theorem C2{v:DV}(h:l[k]?=some v):l.set k v=l:=by
 apply oJ;intro j
 by_cases e:k=j
 ·subst e;rw[kx,h];simp
 ·rw[jl e]
theorem T3(h:AV.fits cs ds){x:AV}(m:ds[k]?=some v)(hx:x.fit v):AV.fits (cs.set k x) ds:=by
 refine(AV.qbt _ _).2 ⟨by simp[AV.qao h],fun i q r e g=> ?_⟩;have u:k<cs.length:=by rw[AV.qao h];exact(cW.1 m).1
 by_cases hi:i=k
 ·subst hi
  rw[om u]at e;rw[m]at g;simp only[ca]at e g;subst e;subst g;exact hx
 ·rw[jl (Ne.symm hi)]at e
  exact((AV.qbt _ _).1 h).2 i q r e g
theorem RP(a3:jk X V lin){q:Nat}{b:VX}{d4:Nat}{f4:ae}(hl:(FOper.el d1 q d2 b d3 sz d4 f1 f2 f3 f4).pre.all (VOper.linOK T)=true)(h:Rel A0 T F p (sv.c+i) sx sv)
 (h1:a7 X lin T draw L0 (FOper.el d1 q d2 b d3 sz d4 f1 f2 f3 f4).pre sx=some s1) (hx:i9 T (.el d1 q d2 b d3 sz d4 f1 f2 f3 f4) s1=some sx'):FE A0 T F p V draw L0 i (.el d1 q d2 b d3 sz d4 f1 f2 f3 f4) sv sx':=by
 obtain⟨sv1,e1,Z,c1⟩:=qE a3 hl h h1;simp only[i9]at hx;split at hx
 ·rename_i bx off ik k k1 k2
  split at hx
  ·rename_i hc
   obtain⟨⟨hd4,n1,n2,n3,n4,n5⟩,hk0,hz⟩:=hc;obtain⟨cs,q1,hx⟩:=aK.1 hx;split at hx
   ·rename_i g xs q2
    split at hx
    ·rename_i es q3
     split at hx
     ·rename_i hes
      simp only[ca]at hx;subst hx
      obtain⟨w,k4,kf⟩:=Z.regs q _ k1;simp only[AV.fit]at kf;subst kf
      obtain⟨w,k5,kf⟩:=Z.regs d2 _ k2;simp only[AV.fit,DV.fit]at kf;obtain⟨_,rfl,rfl⟩:=kf;obtain⟨ds,q4,N⟩:=Z.boxes.get q1;obtain⟨w,q5,qf⟩:=AV.qbZ N q2;have qf':=qf;simp only[AV.fit,DV.fit]at qf';obtain⟨_,rfl,g',ys,rfl,K,hg⟩:=qf';obtain⟨e',q6,ef⟩:=DV.qbZ K q3;have a1:=ef;simp only[DV.fit]at a1;obtain⟨e,rfl,R⟩:=a1;have h4:e.length=sz:=by rw[<-DV.qao R];exact hes
      have a2:lk sv1.r d3=some (.ep e):=by
       simp only[FOper.pre,cS,g9,b6,bm]at e1;obtain⟨t1,H,e3⟩:=aK.1 e1;obtain⟨t2,e5,e6⟩:=aK.1 e3;obtain⟨vb,e7,rfl⟩:=aN.1 e5;obtain⟨t3,e8,e9⟩:=aK.1 e6;obtain⟨vc,u,rfl⟩:=aN.1 e8;simp only[ca]at e9;subst e9
       simp only[St.put]at H e3 e5 e7 u k4 k5 q4 q5⊢
       simp only[VX.get]at H;have G:∀(c:AV),t1={sv with r:=(d1,c)::sv.r}->lk sv.r q=some (.ptr bx off)/\t1.B=sv.B:=fun c hc=>by subst hc;simp only[lk,aD (Ne.symm n3),aD (Ne.symm n2),aD (Ne.symm n1)]at k4;exact⟨k4,rfl⟩
       have h2:lk sv.r q=some (.ptr bx off):=by
        split at H
        ·obtain⟨v,_,J⟩:=aN.1 H;exact(G _ J.symm).1
        ·split at H
         ·simp at H
         ·obtain⟨v,_,J⟩:=aN.1 H;exact(G _ J.symm).1
        ·simp at H
       rw[h2]at H;simp only at H;split at H
       ·simp at H
       ·obtain⟨v,J,rfl⟩:=aN.1 H
        simp only[aW]at J;simp only at q4;rw[q4]at J;simp only[bO,bh,if_false]at J;rw[q5]at J;simp only[ca]at J;subst J
        simp only[lk,if_true,VX.get,aD n4,aD (Ne.symm n5)]at u k5⊢
        simp only[ca]at k5;subst k5
        simp only at u;rw[ay hk0,q6]at u;simp only[bO,DV.cells,h4]at u;rw[ay ⟨trivial,hz⟩]at u;exact u.symm
      have ev:cS V p draw L0 (i+3) [⟨some d4,.load true sz (.t d3),none,f4⟩] sv1=some (sv1.put (some d4) (.d (.agg e))):=by simp only[cS,g9,b6,VX.get,a2,cut,if_true];rw[ay (by omega),dC (by omega)];simp only[b7,bO]
      refine⟨_,by rw[wP,e1];exact ev,?_,by rw[B5,c1]⟩;have hk:k.toNat<xs.length:=(cW.1 q3).1;have hb:bx<s1.B.length:=(cW.1 (lI.1 q1)).1;have b1:=CN K (i:=k.toNat) (x:=(DV.agg es).clr) (DV.qc8 _ _ ef);rw[C2 q6]at b1;have b2:=qp K hk (DV.agg es).clr (.agg e);rw[C2 q6,DV.qbM,cR]at b2;have c2:=qp K hk (DV.agg es) (.agg e);rw[C2 q6,C2 q3]at c2;have Y:sv1.B.set bx (some ds)=sv1.B:=by
       apply oJ;intro j
       by_cases C:bx=j
       ·subst C;rw[kx,lI.1 q4];simp
       ·rw[jl C]
      have hnf:(AV.d (.sl g (xs.set k.toNat (DV.agg es).clr))).fit (.d (.sl g' ys)):=by simp only[AV.fit,DV.fit];exact⟨_,rfl,_,_,rfl,b1,by rw[rW];exact hg⟩
      have hcf:=T3 N q5 hnf;have h3:=Z.boxes.set bx hcf;rw[Y]at h3;have M:=OY N q5 (.d (.sl g (xs.set k.toNat (DV.agg es).clr)));have D:=OY N q5 (.d (.sl g xs));rw[qKR q2]at D;simp only[AV.own,DV.own,rW]at M D;rw[b2]at M;rw[c2]at D;have I:bH s1.B sv1.B bx=AV.owns cs ds:=by unfold bH;rw[q1,q4]
      have P:bH (s1.B.set bx (some (cs.set off (.d (.sl g (xs.set k.toNat (DV.agg es).clr)))))) sv1.B bx=AV.owns (cs.set off (.d (.sl g (xs.set k.toNat (DV.agg es).clr)))) ds:=by unfold bH;rw[BH hb,q4]
      have h5:(AV.d (.agg es)).own (.d (.agg e))=DV.owns es e:=by simp[AV.own,DV.own]
      simp only[DV.own]at D;have O:=Z.held.nodup (.box bx);simp only[aU,I]at O;rw[D]at O;have S:∀j,j∈DV.owns es e->j∉AV.owns (cs.set off (.d (.sl g (xs.set k.toNat (DV.agg es).clr)))) ds:=fun j C m=>by
       rw[M]at m;obtain⟨u1,u2,u3⟩:=cL.1 O;obtain⟨v1,v2,v3⟩:=cL.1 u2;obtain⟨w1,w2,w3⟩:=cL.1 v1;obtain⟨x1,x2,x3⟩:=cL.1 w2;obtain⟨y1,y2,y3⟩:=cL.1 x1;rcases bu.1 m with m|m
       ·exact u3 j m j (by simp[C]) rfl
       ·rcases bu.1 m with m|m
        ·rcases bu.1 m with m|m
         ·exact w3 j m j (by simp[C]) rfl
         ·rcases bu.1 m with m|m
          ·exact y3 j m j C rfl
          ·exact x3 j (by simp[C]) j m rfl
        ·exact v3 j (by simp[C]) j m rfl
      have Q:=Z.over d4 (sx1:=⟨s1.r,s1.B.set bx (some (cs.set off (.d (.sl g (xs.set k.toNat (DV.agg es).clr)))))⟩) (.box bx) (a:= .d (.agg es)) (v:= .d (.agg e))
       Z.regs h3
       (fun ℓ=>by
        cases ℓ with
        |reg t=>exact ct _
        |box j=>
         simp only[aU]
         by_cases C:j=bx
         ·subst C
          rw[I,P,D,M];exact jp (ct _) (jp (jp (ct _) (jp (Fp _ _) (ct _))) (ct _))
         ·rw[Ju (fun he=>C he.symm)];exact ct _)
       (fun t ht=>ht)
       (by simp only[AV.fit,DV.fit];exact⟨_,rfl,_,rfl,R⟩)
       (by
        rw[h5];obtain⟨u1,u2,u3⟩:=cL.1 O;obtain⟨v1,v2,v3⟩:=cL.1 u2;obtain⟨w1,w2,w3⟩:=cL.1 v1;obtain⟨x1,x2,x3⟩:=cL.1 w2;exact(cL.1 x1).2.1)
       (fun j C=>by rw[h5]at C;simp only[aU];rw[I,P];exact⟨by rw[D];simp[C],S j C⟩)
       (k':=sv.c+i+4) (by simp[FOper.pre]) sv.c
      have G:({(sv1.put (some d4) (.d (.agg e)))with c:=sv.c}:St)=sv1.put (some d4) (.d (.agg e)):=by rw[<-c1,Ay]
      rw[G]at Q;simpa[FOper.pre,FOper.post]using Q
     ·simp at hx
    ·simp at hx
   ·simp at hx
  ·simp at hx
 ·simp at hx
theorem OC(e:jk X V lin):∀{fs:d5} {i:Nat} {sx:XS} {sv:St},fs.all (fun f=>f.pre.all (VOper.linOK T))=true->Rel A0 T F p (sv.c+i) sx sv->ey X lin T draw L0 fs sx=some sx'->
 ∃g,cS V p draw L0 i (iJ fs) sv=some g/\Rel A0 T F p (sv.c+i+(iJ fs).length) sx' g/\g.c=sv.c
 | [],i,sx,sv,_,h,hx=>by simp[ey]at hx;subst hx;exact⟨sv,rfl,h,rfl⟩
 |f::fs,i,sx,sv,m,h,hx=>by
  simp only[fW,cb]at m;simp only[ey]at hx;obtain⟨s1,w,hx⟩:=aK.1 hx;obtain⟨J,r,hx⟩:=aK.1 hx;have u:FE A0 T F p V draw L0 i f sv J:=by
   cases f with
   |one o=>
    simp only[i9,ca]at r;subst r
    obtain⟨v1,D,C,e3⟩:=qE e m.1 h w;exact⟨v1,by simpa[FOper.post]using D,by simpa[FOper.post]using C,e3⟩
   |sl d1 a d2 b d3 sz lo hi f1 f2 f3=>exact q7V e m.1 h w r
   |el d1 q d2 b d3 sz d4 f1 f2 f3 f4=>exact RP e m.1 h w r
  obtain⟨v1,D,C,e3⟩:=u;obtain⟨v2,H,G,I⟩:=OC e (i:=i+(f.pre++f.post).length) m.2 (by rw[e3,<-Nat.add_assoc];exact C) hx;refine⟨v2,?_,?_,by rw[I,e3]⟩
  ·simp only[iJ]
   rw[<-bW,wP,D];exact H
  ·simp only[iJ]
   rw[<-bW,cD (as:=f.pre++f.post),<-Nat.add_assoc];rw[e3,<-Nat.add_assoc]at G;exact G
theorem QO(g:jk X V lin){fs:d5}(u:fs.all (fun f=>f.pre.all (VOper.linOK T))=true)(h:Rel A0 T F p sv.c sx sv)(hx:lp X lin T draw na live fs sx=some sx'):
 ∃e,nr V p draw na live (iJ fs) sv=some e/\Rel A0 T F p e.c sx' e:=by
 unfold lp at hx;split at hx
 ·simp at hx
 ·rename_i D
  obtain⟨s1,w,rfl⟩:=aN.1 hx;have G:=h.more na;obtain⟨v1,m,q,C⟩:=OC g (i:=0) (sv:={sv with B:=sv.B++List.replicate na none}) u (by simpa using G) w;rw[h.boxes.1]at m;simp only at q C;refine⟨{v1 with r:=keep v1.r live,c:=sv.c+(iJ fs).length},by unfold nr;rw[aD D,m];rfl,?_⟩;have:=(q.keep live).at (k':=sv.c+(iJ fs).length) (c':=sv.c+(iJ fs).length) (by omega);exact this
end
variable{pre:aj}{t t1:Nat}{kd:IntKind}
section
variable {A0:Ids} {T:ae} {F:Id->Prop} {p:Id} {sx sx':XS} {sv:St} {X:b_} {V:ci} {lin:Nat->ae} {draw:Bool} {L0 i:Nat}
theorem R4{call:ci}{L:Nat}{s':St}(g:p9 t t1 pre=true)(h:cS call p false L 0 pre s=some s'):lk s'.r t1=lk s'.r t:=by
 unfold p9 at g;split at g
 ·rename_i d a af r
  simp only[cb,wX,bne_iff_ne,d0]at g;obtain⟨⟨⟨⟨rfl,rfl⟩,e⟩,w⟩,C⟩:=g;rw[Me]at h;obtain⟨s1,m,u⟩:=aK.1 h;rw[Ey u w,Ey u C];unfold x7 at m;simp only[g9,b6]at m;obtain⟨v,q,rfl⟩:=aN.1 m;simp only[St.put,lk,if_true];rw[aD (by first|exact e|exact fun h=>e h.symm)];simp only[bm,VX.get]at q;exact q.symm
 ·simp at g
theorem LU:∀{xs vs:aw},xs.all (da kd)=true->DV.fits xs vs->vs=xs
 | [],vs,_,h=>by simpa only[DV.fits]using h
 | .int k n::xs,vs,e,h=>by simp only[fW,cb]at e;simp only[DV.fits,DV.fit]at h;obtain⟨v,m,rfl,rfl,g⟩:=h;rw[LU e.2 g]
 | .bool _::xs,_,h,_=>by simp[da]at h
 | .str _::xs,_,h,_=>by simp[da]at h
 | .sl _ _::xs,_,h,_=>by simp[da]at h
 | .agg _::xs,_,h,_=>by simp[da]at h
 | .tup _::xs,_,h,_=>by simp[da]at h
theorem Ij:∀{xs:aw},xs.all (da kd)=true->DV.fits xs xs/\DV.owns xs xs=[]
 | [],_=>by simp[DV.fits,DV.owns]
 | .int k n::xs,e=>by simp only[fW,cb]at e;obtain⟨g,m⟩:=Ij e.2;simp only[DV.fits,DV.fit,DV.owns,DV.own,cp];exact⟨⟨_,_,rfl,rfl,g⟩,m⟩
 | .bool _::xs,h=>by simp[da]at h
 | .str _::xs,h=>by simp[da]at h
 | .sl _ _::xs,h=>by simp[da]at h
 | .agg _::xs,h=>by simp[da]at h
 | .tup _::xs,h=>by simp[da]at h
theorem YQ(h:xs.all (da kd)=true)(k:Nat)(v:Int):(xs.set k (.int kd v)).all (da kd)=true:=by
 rw[cm]at h⊢
 intro x hx;rcases Hm hx with hx|rfl
 ·exact h x hx
 ·simp[da]
theorem Tf(x1:jk X V lin){i:VX}(hl:pre.all (VOper.linOK T)=true)(h:Rel A0 T F p sv.c sx sv)(hx:qL X lin T na live pre t t1 i x sx=some sx'):
 ∃N,yP V p na live pre t t1 i x sv=some N/\Rel A0 T F p N.c sx' N:=by
 unfold qL at hx;split at hx
 ·simp at hx
 rename_i hm;obtain⟨s1,h1,hx⟩:=aK.1 hx;have O:=h.more na;obtain⟨v1,h2,u,h4⟩:=qE x1 (i:=0) (sv:={sv with B:=sv.B++List.replicate na none}) hl (by simpa using O) h1;rw[h.boxes.1]at h2;have x3:=R4 (by simpa using hm) h2;simp only at u h4;unfold Iv at hx;split at hx
 ·rename_i xs kk k kd v Y hix a3
  split at hx
  ·rename_i hc
   obtain⟨k0,k1,P,k3,k4,k5⟩:=hc;simp only[ca]at hx;subst hx
   obtain⟨C,xr,rfl⟩:∃y ys,xs=y::ys:=by cases xs with|nil=>simp at k1;omega|cons y ys=>exact⟨y,ys,rfl⟩
   obtain⟨v0,hv,hf⟩:=u.regs t _ Y;simp only[AV.fit]at hf;obtain⟨y0,rfl,hf⟩:=hf;have h5:=hf;simp only[DV.fit]at h5;obtain⟨g',ys0,rfl,b1,_⟩:=h5;have a2:=LU P b1;subst a2;obtain⟨a,sz,rfl,R,_,_,H,_⟩:=qT5 hf;obtain⟨s0,o0⟩:=Ij P;have a1:C.cells.length=1:=by simp only[fW,cb]at P;cases C<;>first|rfl|(simp[da]at P;done)
   rw[a1]at R;subst R
   rw[o0]at H;obtain⟨fm,_⟩:=HD s0;have K:br s1.r v1.r t=[a]:=by unfold br;rw[Y,hv];exact H
   have Z:a∈aU s1.r s1.B v1.r v1.B (.reg t):=by simp only[aU,K];simp
   obtain⟨ha,hFa,hFu⟩:=u.held.opn _ a Z;have x2:∀ℓ,ℓ≠.reg t->∀b,b∈aU s1.r s1.B v1.r v1.B ℓ->v1.A b=true/\b≠a:=fun ℓ hℓ b D=>⟨(u.held.opn ℓ b D).1,fun g=>by subst g;exact hℓ (u.held.apart _ _ _ D Z)⟩
   have b2:t∉live:=by simpa using k3
   have c1:=Hu u s0 live k4 (a:=a) fun q m b D=>x2 (.reg q) (fun g=>by simp at g;subst g;exact b2 m) b D
   have c2:=UH (A:=v1.A) (a:=a) s0 u.boxes k5 fun j b D=>x2 (.box j) (by simp) b D
   obtain⟨w1,e1,f1⟩:=u.get hix;obtain⟨w2,e2,f2⟩:=u.get a3;simp only[AV.fit]at f1 f2;obtain⟨w1,rfl,f1⟩:=f1;obtain⟨w2,rfl,f2⟩:=f2;simp only[DV.fit]at f1 f2;subst f1 f2;have I:=YQ P k.toNat v;obtain⟨s2,o2⟩:=Ij I;have G:((C::xr).set k.toNat (.int kd v)).length≠0:=by simp
   have Q:(DV.sl U ((C::xr).set k.toNat (.int kd v))).fit (.sl (.own a 1) ((C::xr).set k.toNat (.int kd v))):=by simp only[DV.fit];refine⟨_,_,rfl,s2,.inr ⟨rfl,.inr ⟨G,_,_,rfl,fun e g=> ?_⟩⟩⟩;have:=cm.1 I e g;cases e<;>first|rfl|(simp[da]at this;done)
   have M:(DV.sl U ((C::xr).set k.toNat (.int kd v))).own (.sl (.own a 1) ((C::xr).set k.toNat (.int kd v)))=[a]:=by simp only[DV.own];rw[ay ⟨trivial,G⟩,o2];rfl
   have S:=(u.keep live).at (k':=sv.c+(pre.length+2)) (c':=sv.c+(pre.length+2)) (by omega);refine⟨⟨(t,.d (.sl (.own a 1) ((C::xr).set k.toNat (.int kd v))))::Go.Proofs.YtpcoohnjllclnaaGreat.VS.keep v1.r live,v1.B,v1.A,sv.c+(pre.length+2)⟩,?_,?_⟩
   ·unfold yP
    rw[h2];simp only[bO,KA,x3,hv,e1,e2];rw[ay ⟨trivial,trivial,trivial,ha,k0,k1,k1,P,k3,c1,c2⟩]
   ·have J:∀q,br ((t,.d (.sl U ((C::xr).set k.toNat (.int kd v))))::Go.Proofs.YtpcoohnjllclnaaGreat.VS.keep s1.r live) ((t,.d (.sl (.own a 1) ((C::xr).set k.toNat (.int kd v))))::Go.Proofs.YtpcoohnjllclnaaGreat.VS.keep v1.r live) q=if q=t then [a]else br (Go.Proofs.YtpcoohnjllclnaaGreat.VS.keep s1.r live) (Go.Proofs.YtpcoohnjllclnaaGreat.VS.keep v1.r live) q:=fun q=>by
     unfold br
     by_cases g:q=t
     ·simp only[lk,g,if_true,AV.own,M]
     ·simp only[lk,aD (show¬t=q from fun h=>g h.symm),aD g]
    refine⟨fun q x' w=> ?_,S.boxes,SY (F:=F) (A:=v1.A) (u.at (k':=sv.c+(pre.length+2)) (c':=sv.c+(pre.length+2)) (by omega)).held (fun ℓ=>ℓ) (fun ℓ=> ?_) (fun _ _ _ _ h=>h) (fun b D _=>D),fun q m=> ?_,fun q m=> ?_,S.am⟩
    ·simp only[lk]at w⊢
     split at w
     ·rename_i g;rw[ay g]
      simp only[ca]at w;subst w
      exact⟨_,rfl,by simp only[AV.fit];exact⟨_,rfl,Q⟩⟩
     ·rename_i g;rw[aD g];exact S.regs q x' w
    ·cases ℓ with
     |reg q=>
      simp only[aU,J];split
      ·rename_i g;subst g;rw[K];exact ct _
      ·rw[Hf];split<;>simp
     |box j=>exact ct _
    ·show br _ _ q=[]
     rw[J];split
     ·rename_i g;subst g
      have:=u.nl q m;rw[K]at this;simp at this
     ·exact S.nl q m
    ·simp only[lk]at m⊢
     split at m
     ·simp at m
     ·rename_i g;rw[aD g];exact S.no q m
  ·simp at hx
 ·simp at hx
theorem A_(u:jk X V lin)(n:Nat):∀(vc:VCode),vc.linOK T=true->∀sx sv e sx',Rel A0 T F p sv.c sx sv->bR X lin T n vc sx=some (e,sx')->∃C,cU V p n vc sv=some (e,C)/\Rel A0 T F p C.c sx' C:=by
 intro vc
 induction vc with
 |regionS na live pre t t1 i x d f1 f2=>
  intro g sx sv e sx' h hx;simp only[VCode.linOK]at g;simp only[bR]at hx;obtain⟨s1,w,m⟩:=aN.1 hx;simp at m;obtain⟨rfl,rfl⟩:=m
  obtain⟨v1,r,q⟩:=Tf u g h w;exact⟨v1,by simp only[cU,r,b7],q⟩
 |regionF draw na live fs=>
  intro g sx sv e sx' h hx;simp only[VCode.linOK]at g;simp only[bR]at hx;obtain⟨s1,w,m⟩:=aN.1 hx;simp at m;obtain⟨rfl,rfl⟩:=m
  obtain⟨v1,r,q⟩:=QO u g h w;exact⟨v1,by simp only[cU,r,b7],q⟩
 |skip=>intro _ sx sv e sx' h hx;simp[bR]at hx;obtain⟨rfl,rfl⟩:=hx;exact⟨sv,rfl,h⟩
 |ret=>intro _ sx sv e sx' h hx;simp[bR]at hx;obtain⟨rfl,rfl⟩:=hx;exact⟨sv,rfl,h⟩
 |exit id=>intro _ sx sv e sx' h hx;simp[bR]at hx;obtain⟨rfl,rfl⟩:=hx;exact⟨sv,rfl,h⟩
 |seq a b D G=>
  intro g sx sv e sx' h hx;simp only[VCode.linOK,cb]at g;simp only[bR]at hx;obtain⟨⟨J,s1⟩,w,m⟩:=aK.1 hx;obtain⟨v1,r,q⟩:=D g.1 _ _ _ _ h w;simp only[cU,r,bO];cases J with
  |normal=>exact G g.2 _ _ _ _ q m
  |exit id=>simp at m;obtain⟨rfl,rfl⟩:=m;exact⟨v1,rfl,q⟩
  |ret=>simp at m;obtain⟨rfl,rfl⟩:=m;exact⟨v1,rfl,q⟩
 |region draw na live ops=>
  intro g sx sv e sx' h hx;simp only[VCode.linOK]at g;simp only[bR]at hx;obtain⟨s1,w,m⟩:=aN.1 hx;simp at m;obtain⟨rfl,rfl⟩:=m
  obtain⟨v1,r,q⟩:=Xx u g h w;exact⟨v1,by simp only[cU,r,b7],q⟩
 |cond x a b D G=>
  intro g sx sv e sx' h hx;simp only[VCode.linOK,cb]at g;simp only[bR]at hx;split at hx
  ·rename_i hc
   obtain⟨v1,r,q⟩:=D g.1 _ _ _ _ h hx;exact⟨v1,by simp only[cU,h.getB hc,r],q⟩
  ·rename_i hc
   obtain⟨v1,r,q⟩:=G g.2 _ _ _ _ h hx;exact⟨v1,by simp only[cU,h.getB hc,r],q⟩
  ·simp at hx
 |block id c I=>
  intro g sx sv e sx' h hx;simp only[VCode.linOK]at g;simp only[bR]at hx;obtain⟨⟨J,s1⟩,w,m⟩:=aN.1 hx;obtain⟨v1,r,q⟩:=I g _ _ _ _ h w;simp only[cU,r,b7];split at m
  ·rename_i H
   simp only at H;simp at m;obtain⟨rfl,rfl⟩:=m
   rw[ay H];exact⟨v1,rfl,q⟩
  ·rename_i H
   simp only at H;simp at m;obtain⟨rfl,rfl⟩:=m
   rw[aD H];exact⟨v1,rfl,q⟩
 |loop live c I=>intro g sx sv e sx' h hx;simp only[VCode.linOK]at g;simp only[bR]at hx;simp only[cU];rw[h.boxes.1]at hx;exact QY (fun sx sv e sx' h hx=>I g sx sv e sx' h hx) _ live n sx sv e sx' h hx
end
end Go.Proofs.YtpcoohnjllclnaaGreat.VS
