/- The engine, part 4: a call of the program answers what an evaluator of values without memory answers, for the functions whose code is the one that the evaluator is given. -/
import Derived.Test.YtpcoohnjllclnaaGreatEngD
set_option linter.unusedSimpArgs false
set_option linter.unusedVariables false
namespace Go.Proofs.YtpcoohnjllclnaaGreat.VS
def U:Tag:= .own [] 0
mutual
def DV.clr:DV->DV
 | .sl _ xs=> .sl .sub (DV.clrs xs)
 | .agg cs=> .agg (DV.clrs cs)
 | .tup vs=> .tup (DV.clrs vs)
 | .int k n=> .int k n
 | .bool b=> .bool b
 | .str s=> .str s
def DV.clrs:List DV->List DV
 | []=>[]
 |v::r=>v.clr::DV.clrs r
end
mutual
def AV.clr:AV->AV
 | .d v=> .d v.clr
 | .ep cs=> .ep (DV.clrs cs)
 | .fn f cap=> .fn f (AV.clrs cap)
 | .ptr i o=> .ptr i o
 | .nilp=> .nilp
 | .bsl id a i sz n=> .bsl id a i sz n
 | .tsl a i sz n=> .tsl a i sz n
 | .ag t cs=> .ag t (AV.clrs cs)
 | .und=> .und
def AV.clrs:List AV->List AV
 | []=>[]
 |v::r=>v.clr::AV.clrs r
end
def DV.cn1:DV->DV
 | .sl .nil []=> .sl U []
 |v=>v.clr
def DV.cn:DV->DV
 | .agg cs=> .agg (cs.map DV.cn1)
 |v=>v.cn1
def isAgg:DV->Bool
 | .agg _=>true
 |_=>false
mutual
def DV.allU:DV->Bool
 | .sl _ []=>true
 | .sl g (x::xs)=>decide (g=U)&&DV.allUs (x::xs)
 | .agg cs=>DV.allUs cs
 | .tup _=>false
 | .int _ _=>true
 | .bool _=>true
 | .str _=>true
def DV.allUs:List DV->Bool
 | []=>true
 |v::r=>v.allU&&DV.allUs r
end
def DV.allUT:DV->Bool
 | .tup vs=>DV.allUs vs
 |v=>v.allU
structure XS where
 r:List (Nat×AV)
 B:ah
abbrev bM:=Nat->List AV->ah->Option (AV×ah)
def aY(r:List (Nat×AV)):VX->Option AV
 | .t n=>lk r n
 | .c (.d v)=>some (.d v.cn)
 | .c v=>some v.clr
def cu(T:List Nat):Option Nat->Bool
 |some d=>T.contains d
 |none=>false
def aS(T:List Nat)(s:XS)(dst:Option Nat)(v:AV):XS:=
 match dst with
 |some d=>⟨(d,if T.contains d then v else v.clr)::s.r,s.B⟩
 |none=>s
def ey(T:List Nat)(r:List (Nat×AV)):VX->List (Nat×AV)
 | .t n=>if T.contains n then(match lk r n with|some v=>(n,v.clr)::r|none=>r)else r
 | .c _=>r
def c7(T:List Nat)(r:List (Nat×AV)):List VX->List (Nat×AV)
 | []=>r
 |x::xs=>c7 T (ey T r x) xs
def dV(T:List Nat)(dst:Option Nat)(s:XS)(xs:List VX):XS:=
 if cu T dst then⟨c7 T s.r xs,s.B⟩else s
def gG(B:ah)(i off sz:Nat):ah:=
 match aI B i with
 |some cs=>B.set i (some (splice cs off (AV.clrs ((cs.drop off).take sz))))
 |none=>B
def fx(B:ah):ah:=B.map fun b=>b.map AV.clrs
def fZ(B:ah)(sz i off:Nat)(v:AV):Option ah:=
 (aI B i).bind fun cs=>
  if v.cells.length=sz/\off+sz<=cs.length/\v.cells.all AV.isCell/\v.safe i then some (B.set i (some (splice cs off v.cells)))else none
def f9(r:List (Nat×AV)):List VX->Option (List AV)
 | []=>some []
 |x::xs=>(aY r x).bind fun v=>(f9 r xs).map (v::·)
def cK(LP:List Nat):Nat->List AV->List AV
 |_,[]=>[]
 |j,v::r=>(if LP.contains j then v else v.clr)::cK LP (j+1) r
def dr(LP:List Nat):Nat->List VX->List VX
 |_,[]=>[]
 |j,x::r=>if LP.contains j then x::dr LP (j+1) r else dr LP (j+1) r
def cG(sz bytes:Nat)(x y:DV):Option DV:=
 match x,y with
 | .sl g xs,.sl _ ys=>
  if ys.all (fun e=>e.cells.length=sz/\e.cells.all DV.isCell)then
   if ys.isEmpty then some (.sl g xs)
   else if(xs.length+ys.length)*bytes<=140737488355328/\g=U/\xs.all (fun e=>e.cells.length=sz)then some (.sl U (xs++ys))
   else none
  else none
 |_,_=>none
def VX.linT(T:List Nat):VX->List Nat
 | .t n=>if T.contains n then [n]else []
 | .c _=>[]
def cS(T:List Nat):List VX->Bool
 | []=>true
 |x::xs=>(x.linT T).all (fun n=> !(xs.any fun y=>(y.linT T).contains n))&&cS T xs
def VOper.linOK(T:List Nat)(o:VOper):Bool:=
 match o.op with
 | .build _ ps=>cS T (ps.map fun q=>q.2.2)
 | .buildSlice _ _ _ ps=>cS T (ps.map fun q=>q.2)
 | .append _ _ x y=>cS T [x,y]
 | .append1 _ _ x _ _ v _=>cS T [x,v]
 |_=>true
def VRes.vx:VRes->List VX
 | .tmp t=>[.t t]
 | .cell _ _ _=>[]
def VCode.linOK(T:List Nat):VCode->Bool
 | .seq a b=>a.linOK T&&b.linOK T
 | .region _ _ _ ops=>ops.all (VOper.linOK T)
 | .cond _ a b=>a.linOK T&&b.linOK T
 | .block _ c=>c.linOK T
 | .loop _ c=>c.linOK T
 | .ghost _ c=>c.linOK T
 | .regionT _ _ pre tl=>pre.all (VOper.linOK T)&&tl.all (VOper.linOK T)
 | .regionF _ _ _ fs=>fs.all fun f=>f.pre.all (VOper.linOK T)
 |_=>true
def VFn.linOK(T:List Nat)(f:VFn):Bool:=f.code.linOK T&&cS T (f.results.flatMap VRes.vx)
def nW(T:List Nat)(thaw:Bool)(s:XS)(dst:Option Nat)(v:DV):Option XS:=
 if v.allUT then some (if thaw then aS T ⟨s.r,s.B++(v.clr.thaw s.B.length).2⟩ dst (v.clr.thaw s.B.length).1 else aS T s dst (.d v))else none
def p_(T:List Nat)(dst:Option Nat)(sz:Nat)(arr:Option Nat)(x i:VX)(s:XS):Option XS:=
 match cu T dst,x,arr with
 |true,.t n,none=>
  match aY s.r x,aY s.r i with
  |some (.d (.sl g xs)),some (.d (.int _ k))=>
   if 0<=k then(xs[k.toNat]?).bind fun e=>
    if e.cells.length=sz/\sz≠0 then some (aS T (if T.contains n then⟨(n,.d (.sl g (xs.set k.toNat e.clr)))::s.r,s.B⟩else s) dst (.ep e.cells))else none
   else none
  |_,_=>none
 |_,_,_=>(aA s.r (.indexAddr sz arr x i)).map fun v=>aS T s dst v.clr
def aT(call:bM)(lin:Nat->List Nat)(T:List Nat)(draw:Bool)(L0:Nat)(o:VOper)(s:XS):Option XS:=
 match o.op with
 | .move x=>(aY s.r x).map fun v=>aS T (dV T o.dst s [x]) o.dst v
 | .pick c a b=>
  match aY s.r c with
  |some (.d (.bool true))=>(aY s.r a).map fun v=>aS T (dV T o.dst s [a]) o.dst v
  |some (.d (.bool false))=>(aY s.r b).map fun v=>aS T (dV T o.dst s [b]) o.dst v
  |_=>none
 | .alloc k zero=>
  if ct s.B (L0+k)/\zero.all DV.isCell then some (aS T ⟨s.r,s.B.set (L0+k) (some (zero.map fun z=> .d z.cn1))⟩ o.dst (.ptr (L0+k) 0))else none
 | .box k x=>
  (aY s.r x).bind fun v=>
   if ct s.B (L0+k)/\v.cells.all AV.isCell/\v.safe (L0+k)then
    some (aS T ⟨ey T s.r x,s.B.set (L0+k) (some v.cells)⟩ o.dst (.ptr (L0+k) 0))
   else none
 | .build zero parts=>(dS (aY s.r) (zero.map DV.cn1) parts).map fun cs=>aS T (dV T o.dst s (parts.map fun q=>q.2.2)) o.dst (.d (.agg cs))
 | .buildSlice sz zero len parts=>
  if zero.cells.length=sz/\zero.cells.all DV.isCell/\len*sz<=16777216/\len<=16777216 then
   (cF (aY s.r) sz (List.replicate len zero.cn) parts).map fun xs=>aS T (dV T o.dst s (parts.map fun q=>q.2)) o.dst (.d (.sl U xs))
  else none
 | .makeSlice k sz bytes zero x=>
  match aY s.r x with
  |some (.d (.int _ n))=>
   if draw=false/\ct s.B (L0+k)/\0<=n/\n.toNat*bytes<=140737488355328/\n<9223372036854775808/\zero.cells.length=sz/\zero.cells.all DV.isCell then
    some (aS T ⟨s.r,s.B.set (L0+k) (some (((List.replicate n.toNat zero.cn).flatMap DV.cells).map .d))⟩ o.dst
     (.bsl [] (isAgg zero) (L0+k) sz n.toNat))
   else none
  |_=>none
 | .load agg sz a=>
  match aY s.r a with
  |some (.ep cs)=>(cut agg sz cs).map fun v=>aS T (dV T o.dst s [a]) o.dst (.d v)
  |some (.ptr b off)=>if draw/\L0<=b then none else(aG s.B agg sz b off).map fun v=>aS T (if cu T o.dst then⟨s.r,gG s.B b off (if agg then sz else 1)⟩else s) o.dst v
  |_=>none
 | .store init sz a x=>
  match aY s.r a,aY s.r x with
  |some (.ptr b off),some v=>
   if fq draw init L0 b then none else(fZ s.B sz b off v).map fun B=>aS T ⟨ey T s.r x,B⟩ o.dst .und
  |_,_=>none
 | .storeN sz a x av=>
  match aY s.r a,aY s.r x with
  |some (.ptr b off),some v=>
   if fq draw false L0 b|| !et s.r b av then none else(fZ s.B sz b off v).map fun B=>aS T ⟨ey T s.r x,B⟩ o.dst .und
  |_,_=>none
 | .append sz bytes x y=>
  match aY s.r x,aY s.r y with
  |some (.d v),some (.d w)=>(cG sz bytes v w).map fun u=>aS T ⟨c7 T s.r (if cu T o.dst then [x,y]else [x]),s.B⟩ o.dst (.d u)
  |_,_=>none
 | .call iso f args=>
  match aY s.r f,f9 s.r args with
  |some (.fn k caps),some vs=>
   if iso then
    match aM vs,caps with
    |some _,[]=>
     match call k (cK [] 0 vs) []with
     |some (.d v,_)=>some (aS T s o.dst (.d v))
     |_=>none
    |_,_=>none
   else
    if cS T (dr (lin k) 0 args)then
     match call k (cK (lin k) 0 vs++caps) s.B with
     |some (v,B)=>some (aS T ⟨c7 T s.r (dr (lin k) 0 args),B⟩ o.dst v)
     |none=>none
    else none
  |_,_=>none
 | .append1 sz bytes x y h v t9=>
  match aY s.r x,aY s.r y,aY s.r h,aY s.r v with
  |some (.d (.sl g xs)),some (.d (.sl _ [z])),some (.d (.int _ n)),some (.d w)=>
   if draw=false/\n=xs.length/\z.cells.length=sz/\z.cells.all DV.isCell=true/\w.cells.length=sz/\w.cells.all DV.isCell=true/\lk s.r t9=none then
    (cG sz bytes (.sl g xs) (.sl .sub [w])).map fun u=>aS T ⟨c7 T s.r (if cu T o.dst then [x,v]else [x]),s.B⟩ o.dst (.d u)
   else none
  |_,_,_,_=>none
 | .loadS agg sz a c=>
  match aY s.r a,lk s.r c with
  |some (.ptr b off),some (.ptr e _)=>if b=e\/(draw/\L0<=b)then none else(aG s.B agg sz b off).map fun v=>aS T (if cu T o.dst then⟨s.r,gG s.B b off (if agg then sz else 1)⟩else s) o.dst v
  |_,_=>none
 | .callS c f args=>
  match aY s.r f,f9 s.r args,lk s.r c with
  |some (.fn k []),some (.ptr b off::vs),some (.ptr e _)=>
   if b≠e then none else(aM vs).bind fun _=>(aI s.B b).bind fun cs=>(aM cs).bind fun _=>
    match call k (.ptr 0 off::cK [] 0 vs) [some (AV.clrs cs)]with
    |some (.d v,[some cs'])=>(aM cs').map fun _=>aS T ⟨s.r,s.B.set b (some (AV.clrs cs'))⟩ o.dst (.d v)
    |_=>none
  |_,_,_=>none
 | .extract x i=>
  match aY s.r x with
  |some (.ag true vs)=>(vs[i]?).map fun v=>aS T s o.dst v.clr
  |some (.d (.tup vs))=>(vs[i]?).map fun v=>
   aS T (match x with| .t n=>if cu T o.dst&&T.contains n then⟨(n,.d (.tup (vs.set i v.clr)))::s.r,s.B⟩else s| .c _=>s) o.dst (.d v)
  |_=>none
 | .eqNil _ _=>none
 | .indexAddr sz arr x i=>p_ T o.dst sz arr x i s
 |op=>(aA s.r op).map fun v=>aS T s o.dst v.clr
def bd(call:bM)(lin:Nat->List Nat)(T:List Nat)(draw:Bool)(L0:Nat):List VOper->XS->Option XS
 | [],s=>some s
 |o::os,s=>
  match cJ s.r o.guard with
  |some true=>(aT call lin T draw L0 o s).bind (bd call lin T draw L0 os)
  |some false=>bd call lin T draw L0 os (aS T s o.dst .und)
  |none=>none
def aE(L1:Nat)(live:List Nat)(s:XS):Option XS:=
 if aD L1 (keep s.r live)/\L1<=s.B.length then some ⟨keep s.r live,s.B.take L1⟩else none
def fl(f:XS->Option (Ex×XS))(L1:Nat)(live:List Nat):Nat->XS->Option (Ex×XS)
 |0,_=>none
 |n+1,s=>
  (aE L1 live s).bind fun s0=>
   (f s0).bind fun r=>
    match r.1 with
    | .normal=>fl f L1 live n r.2
    |_=>some r
def iA(call:bM)(lin:Nat->List Nat)(T:List Nat)(draw:Bool)(na:Nat)(live:List Nat)(ops:List VOper)(s:XS):Option XS:=
 if draw&& !ip ops then none
 else(bd call lin T draw s.B.length ops ⟨s.r,s.B++List.replicate na none⟩).map fun s'=>⟨keep s'.r live,s'.B⟩
def kl(call:bM)(lin:Nat->List Nat)(T:List Nat)(na:Nat)(live:List Nat)(pre tl:List VOper)(s:XS):Option XS:=
 if ip pre=false then none
 else(bd call lin T true s.B.length pre ⟨s.r,s.B++List.replicate na none⟩).bind fun s1=>
  (bd call lin T false s.B.length tl s1).map fun s2=>⟨keep s2.r live,s2.B⟩
def fy(xs:List DV)(l h:Nat):List DV:=(xs.take h).take l++DV.clrs ((xs.take h).drop l)++xs.drop h
def gT(T:List Nat):FOper->XS->Option XS
 | .one _,s=>some s
 | .sl d1 a d2 _ d3 sz lo hi _ _ _,s=>
  match lk s.r a,cT s.r lo,cT s.r hi with
  |some (.d (.sl g xs)),some lo,some hi=>
   if(T.contains a=true/\T.contains d3=true/\d1≠a/\d2≠a/\d1≠d2)/\xs.all (fun e=>e.cells.length=sz)then
    (en xs.length hi).bind fun h=>(em h lo).map fun l=>aS T ⟨(a,.d (.sl g (fy xs l h)))::s.r,s.B⟩ (some d3) (.d (.sl .sub ((xs.take h).drop l)))
   else none
  |_,_,_=>none
 | .el d1 q d2 _ d3 sz d4 _ _ _ _,s=>
  match lk s.r q,lk s.r d2 with
  |some (.ptr b off),some (.d (.int _ k))=>
   if(T.contains d4=true/\d1≠q/\d2≠q/\d3≠q/\d1≠d2/\d3≠d2)/\0<=k/\sz≠0 then
    (aI s.B b).bind fun cs=>
     match cs[off]? with
     |some (.d (.sl g xs))=>
      match xs[k.toNat]? with
      |some (.agg es)=>if es.length=sz then some (aS T ⟨s.r,s.B.set b (some (cs.set off (.d (.sl g (xs.set k.toNat (DV.agg es).clr)))))⟩ (some d4) (.d (.agg es)))else none
      |_=>none
     |_=>none
   else none
  |_,_=>none
def eK(call:bM)(lin:Nat->List Nat)(T:List Nat)(draw:Bool)(L0:Nat):List FOper->XS->Option XS
 | [],s=>some s
 |f::fs,s=>(bd call lin T draw L0 f.pre s).bind fun s1=>(gT T f s1).bind (eK call lin T draw L0 fs)
def jf(call:bM)(lin:Nat->List Nat)(T:List Nat)(draw:Bool)(na:Nat)(live:List Nat)(fs:List FOper)(s:XS):Option XS:=
 if draw&& !ip (gn fs)then none
 else(eK call lin T draw s.B.length fs ⟨s.r,s.B++List.replicate na none⟩).map fun s'=>⟨keep s'.r live,s'.B⟩
mutual
def DV.xrest(rs:List DV):DV->Bool
 | .agg cs=>DV.xrests rs cs
 | .tup cs=>DV.xrests rs cs
 | .sl g xs=>(xs.isEmpty||(xs.flatMap DV.cells).any (fun c=>rs.all fun r=> !c.like r)||decide (g=U))&&DV.xrests rs xs
 | .int _ _=>true
 | .bool _=>true
 | .str _=>true
def DV.xrests(rs:List DV):List DV->Bool
 | []=>true
 |v::r=>v.xrest rs&&DV.xrests rs r
end
def AV.xrest(rs:List DV):AV->Bool
 | .d v=>v.xrest rs
 | .ptr _ _=>true
 | .nilp=>true
 | .bsl _ _ _ _ _=>true
 | .tsl _ _ _ _=>true
 | .und=>true
 | .fn _ []=>true
 |_=>false
def jb(rs:List DV)(r:List (Nat×AV)):Bool:=r.all fun q=>q.2.xrest rs
def eG(rs:List DV)(B:ah):Bool:=B.all fun b=>match b with|none=>true|some cs=>cs.all (AV.xrest rs)
def fp(x:Gho)(s:XS):Option XS:=
 match x with
 | .focR t live=>
  match lk s.r t with
  |some (.d (.sl (.own [] 0) (x::xs)))=>
   if live.contains t=false/\jb ((x::xs).flatMap DV.cells) (keep s.r live)=true/\eG ((x::xs).flatMap DV.cells) s.B=true/\DV.xrests ((x::xs).flatMap DV.cells) ((x::xs).flatMap DV.cells)=true then
    some ⟨(t,.tsl (bJ x) s.B.length x.cells.length (xs.length+1))::keep s.r live,s.B++[some (((x::xs).flatMap DV.cells).map .d)]⟩
   else none
  |_=>none
 | .focC t off live=>
  match lk s.r t with
  |some (.ptr (j+1) o)=>
   (aI s.B (j+1)).bind fun cs=>
    match cs[o+off]? with
    |some (.d (.sl (.own [] 0) (x::xs)))=>
     if ct s.B j=true/\jb ((x::xs).flatMap DV.cells) (keep s.r live)=true/\
      eG ((x::xs).flatMap DV.cells) (s.B.set (j+1) (some (cs.set (o+off) (.tsl (bJ x) j x.cells.length (xs.length+1)))))=true/\DV.xrests ((x::xs).flatMap DV.cells) ((x::xs).flatMap DV.cells)=true then
      some ⟨keep s.r live,(s.B.set (j+1) (some (cs.set (o+off) (.tsl (bJ x) j x.cells.length (xs.length+1))))).set j (some (((x::xs).flatMap DV.cells).map .d))⟩
     else none
    |_=>none
  |_=>none
 | .frzR t L live=>
  match lk s.r t with
  |some v=>
   if live.contains t=false/\aD L (keep s.r live)=true/\L<=s.B.length then
    (v.frz (cC L s.B)).map fun d=>⟨(t,.d d.clr)::keep s.r live,s.B.take L⟩
   else none
  |none=>none
 | .frzB t L live=>
  match lk s.r t with
  |some (.ptr i 0)=>
   if L<=i/\live.contains t=false/\aD L (keep s.r live)=true/\L<=s.B.length then
    (aI s.B i).bind fun cs=>(cp (AV.frzC (cC L s.B) s.B.length) cs).bind fun ds=>
     if ds.all DV.isCell then some ⟨(t,.ptr L 0)::keep s.r live,s.B.take L++[some (ds.map fun d=> .d d.clr)]⟩else none
   else none
  |_=>none
def bD(call:bM)(lin:Nat->List Nat)(T:List Nat)(n:Nat):VCode->XS->Option (Ex×XS)
 | .skip,s=>some (.normal,s)
 | .ret,s=>some (.ret,s)
 | .exit id,s=>some (.exit id,s)
 | .seq a b,s=>
  (bD call lin T n a s).bind fun r=>
   match r.1 with
   | .normal=>bD call lin T n b r.2
   |_=>some r
 | .region draw na live ops,s=>(iA call lin T draw na live ops s).map fun s'=>(.normal,s')
 | .cond x a b,s=>
  match aY s.r x with
  |some (.d (.bool true))=>bD call lin T n a s
  |some (.d (.bool false))=>bD call lin T n b s
  |_=>none
 | .block id c,s=>
  (bD call lin T n c s).map fun r=>if r.1= .exit id then(.normal,r.2)else r
 | .loop live c,s=>fl (bD call lin T n c) s.B.length live n s
 | .ghost x c,s=>(fp x s).bind (bD call lin T n c)
 | .regionT na live pre tl,s=>(kl call lin T na live pre tl s).map fun s'=>(.normal,s')
 | .regionF draw na live fs,s=>(jf call lin T draw na live fs s).map fun s'=>(.normal,s')
def nY(s:XS):VRes->Option AV
 | .tmp t=>lk s.r t
 | .cell t agg sz=>
  match lk s.r t with
  |some (.ptr i off)=>(aG s.B agg sz i off).map AV.clr
  |_=>none
def l8(s:XS):List VRes->Option (List AV)
 | []=>some []
 |x::xs=>(nY s x).bind fun v=>(l8 s xs).map (v::·)
def Do(L:Nat)(s:XS)(t:Nat)(agg:Bool)(sz:Nat):Option (AV×ah):=
 match lk s.r t with
 |some (.ptr i off)=>
  if L<=i then
   match aG s.B agg sz i off with
   |some (.d v)=>some (.d v,s.B.take L)
   |_=>none
  else none
 |_=>none
def yE(L:Nat)(s:XS)(rs:List VRes):Option (AV×ah):=
 match l8 s rs with
 |some [.d v]=>some (.d v,s.B.take L)
 |some [.ptr i off]=>some (.ptr i off,s.B)
 |some [.bsl _ agg i sz n]=>
  if L<=i/\n<9223372036854775808 then
   ((aI s.B i).bind aM).bind fun cs=>if cs.length=n*sz then(chunks agg sz n cs).map fun xs=>(.d (.sl U xs),s.B.take L)else none
  else none
 |some [_]=>none
 |some vs=>(aM vs).map fun ds=>(.d (.tup ds),s.B.take L)
 |none=>none
def EF(L:Nat)(s:XS)(h:Nat)(g1:Bool)(m l:Nat)(g2:Bool)(j t3:Nat):Option (AV×ah):=
 match lk s.r h,lk s.r l,lk s.r t3 with
 |some (.ptr a e),some (.ptr c g),some (.d (.bool b))=>
  if L<=a/\L<=c/\a≠c then
   match aG s.B g1 m a e,aG s.B g2 j c g with
   |some (.d v1),some (.d v2)=>some (.d (.tup [v1,v2,.bool b]),s.B.take L)
   |_,_=>none
  else none
 |_,_,_=>none
def fB(L:Nat)(s:XS):List VRes->Option (AV×ah)
 | [.cell t agg sz]=>Do L s t agg sz
 | [.cell d g1 c,.cell b g2 a,.tmp t3]=>EF L s d g1 c b g2 a t3
 |rs=>yE L s rs
structure XEnv where
 env:Env
 lin:Nat->List Nat
 nat:Nat->Option (List DV->Option DV)
def gI(call:bM)(sf:SFn)(x:DV)(xr:List DV):Option (List DV):=
 if DV.allUs (x::xr)=true then
  match call sf.srt [.tsl true 0 x.cells.length (xr.length+1),.fn sf.cmp []] [some (((x::xr).flatMap DV.cells).map .d)]with
  |some (_,[some cs])=>(aM cs).bind fun es=>if es.length=(xr.length+1)*x.cells.length then chunks true x.cells.length (xr.length+1) es else none
  |_=>none
 else none
def mZ(s:XS):Option (DV×DV):=
 match lk s.r 3,lk s.r 4,s.B with
 |some (.ptr 0 0),some (.ptr 1 0),[some [.d a,.d b,_],some [.d z0,.d e,.d c]]=>
  if a.flat&&b.flat&&z0.flat&&e.flat&&c.flat&&a.isCell&&b.isCell then some (a.clr,b.clr)else none
 |_,_,_=>none
def io(call:bM)(lin:Nat->List Nat)(T:List Nat)(n:Nat)(sf:SFn)(ds:List DV):Option DV:=
 if ds.length≠sf.np then none else
  (bD call lin T n sf.pre ⟨aV 0 (ds.map .d),[]⟩).bind fun r=>
   match r.1,lk r.2.r sf.cond,lk r.2.r sf.row with
   | .normal,some (.d (.bool true)),some (.d (.sl (.own [] 0) (x::xr)))=>
    (mZ r.2).bind fun y=>(gI call sf x xr).map fun q=> .agg [y.1,y.2,.sl U q]
   | .normal,some (.d (.bool false)),_| .normal,some (.d (.bool true)),some (.d (.sl _ []))=>
    (bD call lin T n sf.rest r.2).bind fun a=>
     match a.1 with
     | .exit _=>none
     |_=>(fB 0 a.2 sf.results).bind fun q=>match q.1 with
      | .d v=>some v
      |_=>none
   |_,_,_=>none
def ch(X:XEnv):Nat->bM
 |0,_,_,_=>none
 |n+1,f,args,B=>
  match X.nat f with
  |some g=>(aM args).bind fun ds=>(g ds).map fun v=>(.d v,B)
  |none=>
   match X.env.code f with
   |none=>
    match X.env.spec f with
    |none=>none
    |some sf=>(aM args).bind fun ds=>(io (ch X n) X.lin (X.lin f) n sf ds).map fun v=>(.d v,B)
   |some vf=>
    if args.length≠vf.np then none else
     match X.env.base f with
     |none=>(bD (ch X n) X.lin (X.lin f) n vf.code ⟨aV 0 args,B⟩).bind fun r=>
      match r.1 with
      | .exit _=>none
      |_=>fB B.length r.2 vf.results
     |some m=>if B.length≠m then none else(bD (ch X n) X.lin (X.lin f) n vf.code ⟨aV 0 (AV.clrs args),fx B⟩).bind fun r=>
      match r.1 with
      | .exit _=>none
      |_=>fB B.length r.2 vf.results
def Tag.ids:Tag->List Id
 | .own a _=>[a]
 |_=>[]
def Tag.fit(g:Tag)(n:Nat)(g':Tag)(ys:List DV):Prop:=
 g= .sub\/(g=U/\((n=0/\(g'= .nil\/∃a sz,g'= .own a sz))\/(n≠0/\∃a sz,g'= .own a sz/\∀e:DV,e∈ys->e.cells.length=sz)))
mutual
def DV.fit:DV->DV->Prop
 | .sl g xs,v=>∃g' ys,v= .sl g' ys/\DV.fits xs ys/\g.fit xs.length g' ys
 | .agg cs,v=>∃ds,v= .agg ds/\DV.fits cs ds
 | .tup cs,v=>∃ds,v= .tup ds/\DV.fits cs ds
 | .int k n,v=>v= .int k n
 | .bool b,v=>v= .bool b
 | .str s,v=>v= .str s
def DV.fits:List DV->List DV->Prop
 | [],ys=>ys=[]
 |x::xs,ys=>∃v vs,ys=v::vs/\x.fit v/\DV.fits xs vs
end
mutual
def DV.own:DV->DV->List Id
 | .sl g xs,.sl g' ys=>(if g=U/\xs.length≠0 then g'.ids else [])++DV.owns xs ys
 | .agg cs,.agg ds=>DV.owns cs ds
 | .tup cs,.tup ds=>DV.owns cs ds
 |_,_=>[]
def DV.owns:List DV->List DV->List Id
 |x::xs,y::ys=>x.own y++DV.owns xs ys
 |_,_=>[]
end
def AV.own:AV->AV->List Id
 | .d x,.d v=>x.own v
 | .ep cs,.ep ds=>DV.owns cs ds
 |_,_=>[]
def AV.owns:List AV->List AV->List Id
 |x::xs,y::ys=>x.own y++AV.owns xs ys
 |_,_=>[]
mutual
def AV.fit:AV->AV->Prop
 | .d x,v=>∃y,v= .d y/\x.fit y
 | .ep cs,v=>∃ds,v= .ep ds/\DV.fits cs ds
 | .fn f cap,v=>∃b,v= .fn f b/\AV.fits cap b/\AV.owns cap b=[]
 | .ptr i o,v=>v= .ptr i o
 | .nilp,v=>v= .nilp
 | .bsl _ a i sz n,v=>∃id,v= .bsl id a i sz n
 | .tsl a i sz n,v=>v= .tsl a i sz n
 | .ag t cs,v=>∃ds,v= .ag t ds/\AV.fits cs ds/\AV.owns cs ds=[]
 | .und,v=>v= .und
def AV.fits:List AV->List AV->Prop
 | [],ys=>ys=[]
 |x::xs,ys=>∃v vs,ys=v::vs/\x.fit v/\AV.fits xs vs
end
theorem Tag.qOt(n:Nat)(g':Tag)(ys:List DV):Tag.fit .sub n g' ys:= .inl rfl
mutual
theorem DV.qcK:∀(x v:DV),x.fit v->x.clr.fit v
 | .sl g xs,v,h=>by
  simp only[DV.fit,DV.clr]at h⊢
  obtain⟨g',ys,rfl,h1,a⟩:=h;exact⟨g',ys,rfl,DV.qbh xs ys h1,.inl rfl⟩
 | .agg cs,v,h=>by
  simp only[DV.fit,DV.clr]at h⊢
  obtain⟨ds,rfl,h1⟩:=h;exact⟨ds,rfl,DV.qbh cs ds h1⟩
 | .tup cs,v,h=>by
  simp only[DV.fit,DV.clr]at h⊢
  obtain⟨ds,rfl,h1⟩:=h;exact⟨ds,rfl,DV.qbh cs ds h1⟩
 | .int k n,v,h=>by simpa only[DV.fit,DV.clr]using h
 | .bool b,v,h=>by simpa only[DV.fit,DV.clr]using h
 | .str s,v,h=>by simpa only[DV.fit,DV.clr]using h
theorem DV.qbh:∀(xs ys:List DV),DV.fits xs ys->DV.fits (DV.clrs xs) ys
 | [],ys,h=>by simpa only[DV.fits,DV.clrs]using h
 |x::xs,ys,h=>by
  simp only[DV.fits,DV.clrs]at h⊢
  obtain⟨v,vs,rfl,h1,a⟩:=h;exact⟨v,vs,rfl,DV.qcK x v h1,DV.qbh xs vs a⟩
end
mutual
theorem DV.qbC:∀(x v:DV),x.clr.own v=[]
 | .sl g xs,v=>by cases v<;>simp[DV.clr,DV.own,DV.qdW xs,U]
 | .agg cs,v=>by cases v<;>simp[DV.clr,DV.own,DV.qdW cs]
 | .tup cs,v=>by cases v<;>simp[DV.clr,DV.own,DV.qdW cs]
 | .int k n,v=>by cases v<;>simp[DV.clr,DV.own]
 | .bool b,v=>by cases v<;>simp[DV.clr,DV.own]
 | .str s,v=>by cases v<;>simp[DV.clr,DV.own]
theorem DV.qdW:∀(xs ys:List DV),DV.owns (DV.clrs xs) ys=[]
 | [],ys=>by simp[DV.clrs,DV.owns]
 |x::xs,ys=>by cases ys<;>simp[DV.clrs,DV.owns,DV.qbC x,DV.qdW xs]
end
mutual
theorem DV.qbj:∀(x:DV),x.clr.fit x
 | .sl g xs=>by simp only[DV.clr,DV.fit];exact⟨_,_,rfl,DV.qcR xs,.inl rfl⟩
 | .agg cs=>by simp only[DV.clr,DV.fit];exact⟨_,rfl,DV.qcR cs⟩
 | .tup cs=>by simp only[DV.clr,DV.fit];exact⟨_,rfl,DV.qcR cs⟩
 | .int k n=>by simp[DV.clr,DV.fit]
 | .bool b=>by simp[DV.clr,DV.fit]
 | .str s=>by simp[DV.clr,DV.fit]
theorem DV.qcR:∀(xs:List DV),DV.fits (DV.clrs xs) xs
 | []=>by simp[DV.clrs,DV.fits]
 |x::xs=>by simp only[DV.clrs,DV.fits];exact⟨_,_,rfl,DV.qbj x,DV.qcR xs⟩
end
theorem DV.qax:∀l:List DV,DV.clrs l=l.map DV.clr
 | []=>by simp[DV.clrs]
 |x::xs=>by simp[DV.clrs,DV.qax xs]
theorem AV.qax:∀l:List AV,AV.clrs l=l.map AV.clr
 | []=>by simp[AV.clrs]
 |x::xs=>by simp[AV.clrs,AV.qax xs]
theorem DV.qbg:∀(xs ys:List DV),DV.fits xs ys↔xs.length=ys.length/\∀(i:Nat) (x y:DV),xs[i]?=some x->ys[i]?=some y->x.fit y
 | [],ys=>by
  simp only[DV.fits];constructor
  ·rintro rfl;simp
  ·rintro⟨h,_⟩;exact kp.1 h.symm
 |x::xs,ys=>by
  simp only[DV.fits];constructor
  ·rintro⟨v,vs,rfl,h1,c⟩
   obtain⟨e,d⟩:=(DV.qbg xs vs).1 c;refine⟨by simp[e],fun i a b ha hb=> ?_⟩;cases i with
   |zero=>simp at ha hb;subst ha;subst hb;exact h1
   |succ i=>simp at ha hb;exact d i a b ha hb
  ·rintro⟨h1,c⟩
   cases ys with
   |nil=>simp at h1
   |cons y ys=>exact⟨y,ys,rfl,c 0 x y rfl rfl,(DV.qbg xs ys).2 ⟨by simpa using h1,fun i a b ha hb=>c (i+1) a b (by simpa using ha) (by simpa using hb)⟩⟩
theorem AV.qbg:∀(xs ys:List AV),AV.fits xs ys↔xs.length=ys.length/\∀(i:Nat) (x y:AV),xs[i]?=some x->ys[i]?=some y->x.fit y
 | [],ys=>by
  simp only[AV.fits];constructor
  ·rintro rfl;simp
  ·rintro⟨h,_⟩;exact kp.1 h.symm
 |x::xs,ys=>by
  simp only[AV.fits];constructor
  ·rintro⟨v,vs,rfl,h1,c⟩
   obtain⟨e,d⟩:=(AV.qbg xs vs).1 c;refine⟨by simp[e],fun i a b ha hb=> ?_⟩;cases i with
   |zero=>simp at ha hb;subst ha;subst hb;exact h1
   |succ i=>simp at ha hb;exact d i a b ha hb
  ·rintro⟨h1,c⟩
   cases ys with
   |nil=>simp at h1
   |cons y ys=>exact⟨y,ys,rfl,c 0 x y rfl rfl,(AV.qbg xs ys).2 ⟨by simpa using h1,fun i a b ha hb=>c (i+1) a b (by simpa using ha) (by simpa using hb)⟩⟩
theorem DV.qan{xs ys:List DV}(h:DV.fits xs ys):xs.length=ys.length:=((DV.qbg xs ys).1 h).1
theorem AV.qan{xs ys:List AV}(h:AV.fits xs ys):xs.length=ys.length:=((AV.qbg xs ys).1 h).1
theorem DV.qb3{xs ys:List DV}(h:DV.fits xs ys){i:Nat}{x:DV}(hx:xs[i]?=some x):∃y,ys[i]?=some y/\x.fit y:=by
 obtain⟨h1,b⟩:=(DV.qbg xs ys).1 h;have a:i<ys.length:=by rw[<-h1];exact(aK.1 hx).1
 exact⟨ys[i],by simp[a],b i x _ hx (by simp[a])⟩
theorem AV.qb3{xs ys:List AV}(h:AV.fits xs ys){i:Nat}{x:AV}(hx:xs[i]?=some x):∃y,ys[i]?=some y/\x.fit y:=by
 obtain⟨h1,b⟩:=(AV.qbg xs ys).1 h;have a:i<ys.length:=by rw[<-h1];exact(aK.1 hx).1
 exact⟨ys[i],by simp[a],b i x _ hx (by simp[a])⟩
theorem DV.qaU{a b c d:List DV}(h1:DV.fits a c)(h:DV.fits b d):DV.fits (a++b) (c++d):=by
 induction a generalizing c with
 |nil=>simp only[DV.fits]at h1;subst h1;simpa using h
 |cons x xs e=>
  simp only[DV.fits]at h1;obtain⟨v,vs,rfl,j,g⟩:=h1;simp only[cP,DV.fits];exact⟨v,vs++d,rfl,j,e g⟩
theorem AV.qaU{a b c d:List AV}(h1:AV.fits a c)(h:AV.fits b d):AV.fits (a++b) (c++d):=by
 induction a generalizing c with
 |nil=>simp only[AV.fits]at h1;subst h1;simpa using h
 |cons x xs e=>
  simp only[AV.fits]at h1;obtain⟨v,vs,rfl,j,g⟩:=h1;simp only[cP,AV.fits];exact⟨v,vs++d,rfl,j,e g⟩
theorem DV.qbl{a c:List DV}(h:DV.fits a c)(n:Nat):DV.fits (a.take n) (c.take n):=by
 induction a generalizing c n with
 |nil=>simp only[DV.fits]at h;subst h;simp[DV.fits]
 |cons x xs b=>
  simp only[DV.fits]at h;obtain⟨v,vs,rfl,e,d⟩:=h;cases n with
  |zero=>simp[DV.fits]
  |succ n=>simp only[sb,DV.fits];exact⟨_,_,rfl,e,b d n⟩
theorem DV.qbu{a c:List DV}(h:DV.fits a c)(n:Nat):DV.fits (a.drop n) (c.drop n):=by
 induction a generalizing c n with
 |nil=>simp only[DV.fits]at h;subst h;simp[DV.fits]
 |cons x xs d=>
  have b:=h;simp only[DV.fits]at h;obtain⟨v,vs,rfl,g,e⟩:=h;cases n with
  |zero=>simpa using b
  |succ n=>simpa using d e n
theorem AV.qbl{a c:List AV}(h:AV.fits a c)(n:Nat):AV.fits (a.take n) (c.take n):=by
 induction a generalizing c n with
 |nil=>simp only[AV.fits]at h;subst h;simp[AV.fits]
 |cons x xs b=>
  simp only[AV.fits]at h;obtain⟨v,vs,rfl,e,d⟩:=h;cases n with
  |zero=>simp[AV.fits]
  |succ n=>simp only[sb,AV.fits];exact⟨_,_,rfl,e,b d n⟩
theorem AV.qbu{a c:List AV}(h:AV.fits a c)(n:Nat):AV.fits (a.drop n) (c.drop n):=by
 induction a generalizing c n with
 |nil=>simp only[AV.fits]at h;subst h;simp[AV.fits]
 |cons x xs d=>
  have b:=h;simp only[AV.fits]at h;obtain⟨v,vs,rfl,g,e⟩:=h;cases n with
  |zero=>simpa using b
  |succ n=>simpa using d e n
theorem DV.qaR{a b c d:List DV}(h:a.length=c.length):DV.owns (a++b) (c++d)=DV.owns a c++DV.owns b d:=by
 induction a generalizing c with
 |nil=>cases c with
  |nil=>simp[DV.owns]
  |cons _ _=>simp at h
 |cons x xs e=>cases c with
  |nil=>simp at h
  |cons y ys=>simp[DV.owns,e (c:=ys) (by simpa using h),b7]
theorem AV.qaR{a b c d:List AV}(h:a.length=c.length):AV.owns (a++b) (c++d)=AV.owns a c++AV.owns b d:=by
 induction a generalizing c with
 |nil=>cases c with
  |nil=>simp[AV.owns]
  |cons _ _=>simp at h
 |cons x xs e=>cases c with
  |nil=>simp at h
  |cons y ys=>simp[AV.owns,e (c:=ys) (by simpa using h),b7]
theorem DV.qbN{a c:List DV}(h:a.length=c.length)(n:Nat):DV.owns a c=DV.owns (a.take n) (c.take n)++DV.owns (a.drop n) (c.drop n):=by
 rw[<-DV.qaR (by simp[h]),du,du]
theorem AV.qbN{a c:List AV}(h:a.length=c.length)(n:Nat):AV.owns a c=AV.owns (a.take n) (c.take n)++AV.owns (a.drop n) (c.drop n):=by
 rw[<-AV.qaR (by simp[h]),du,du]
theorem DV.qcw{xs ys:List DV}{i:Nat}{x y:DV}(hx:xs[i]?=some x)(hy:ys[i]?=some y):(x.own y).Sublist (DV.owns xs ys):=by
 induction xs generalizing ys i with
 |nil=>simp at hx
 |cons a as c=>cases ys with
  |nil=>simp at hy
  |cons b bs=>cases i with
   |zero=>simp at hx hy;subst hx;subst hy;simp[DV.owns]
   |succ i=>simp at hx hy;simp only[DV.owns];exact(c hx hy).trans (gi _ _)
theorem AV.qcw{xs ys:List AV}{i:Nat}{x y:AV}(hx:xs[i]?=some x)(hy:ys[i]?=some y):(x.own y).Sublist (AV.owns xs ys):=by
 induction xs generalizing ys i with
 |nil=>simp at hx
 |cons a as c=>cases ys with
  |nil=>simp at hy
  |cons b bs=>cases i with
   |zero=>simp at hx hy;subst hx;subst hy;simp[AV.owns]
   |succ i=>simp at hx hy;simp only[AV.owns];exact(c hx hy).trans (gi _ _)
theorem DV.qa2{x v:DV}(h:x.fit v):DV.fits x.cells v.cells:=by
 cases x<;>simp only[DV.fit]at h
 case agg cs=>obtain⟨ds,rfl,h1⟩:=h;exact h1
 case sl g xs=>obtain⟨g',ys,rfl,h1,a⟩:=h;simp only[DV.cells,DV.fits];exact⟨_,_,rfl,by simp only[DV.fit];exact⟨_,_,rfl,h1,a⟩,rfl⟩
 case tup cs=>obtain⟨ds,rfl,h1⟩:=h;simp only[DV.cells,DV.fits];exact⟨_,_,rfl,by simp only[DV.fit];exact⟨_,rfl,h1⟩,rfl⟩
 all_goals subst h;simp[DV.cells,DV.fits,DV.fit]
theorem DV.qdo{x v:DV}(h:x.fit v):DV.owns x.cells v.cells=x.own v:=by
 cases x<;>simp only[DV.fit]at h
 case agg cs=>obtain⟨ds,rfl,h1⟩:=h;simp[DV.cells,DV.own]
 case sl g xs=>obtain⟨g',ys,rfl,h1,a⟩:=h;simp[DV.cells,DV.owns]
 case tup cs=>obtain⟨ds,rfl,h1⟩:=h;simp[DV.cells,DV.owns]
 all_goals subst h;simp[DV.cells,DV.owns]
theorem DV.qd5{x v:DV}(h:x.fit v):v.isCell=x.isCell:=by
 cases x<;>simp only[DV.fit]at h
 case agg cs=>obtain⟨ds,rfl,h1⟩:=h;rfl
 case sl g xs=>obtain⟨g',ys,rfl,h1,a⟩:=h;rfl
 case tup cs=>obtain⟨ds,rfl,h1⟩:=h;rfl
 all_goals subst h;rfl
theorem DV.qbt{xs vs:List DV}(h:DV.fits xs vs):vs.all DV.isCell=xs.all DV.isCell:=by
 induction xs generalizing vs with
 |nil=>simp only[DV.fits]at h;subst h;rfl
 |cons x xs a=>simp only[DV.fits]at h;obtain⟨v,r,rfl,h1,b⟩:=h;simp[DV.qd5 h1,a b]
theorem DV.qby{x v:DV}(h:x.fit v):v.cells.length=x.cells.length:=(DV.qan (DV.qa2 h)).symm
theorem AV.qd5{x v:AV}(h:x.fit v):v.isCell=x.isCell:=by
 cases x<;>simp only[AV.fit]at h
 case d x=>obtain⟨y,rfl,h1⟩:=h;exact DV.qd5 h1
 case ep=>obtain⟨_,rfl,_⟩:=h;rfl
 case fn=>obtain⟨_,rfl,_⟩:=h;rfl
 case bsl=>obtain⟨_,rfl⟩:=h;rfl
 case ag=>obtain⟨_,rfl,_⟩:=h;rfl
 all_goals subst h;rfl
theorem AV.qbt{xs vs:List AV}(h:AV.fits xs vs):vs.all AV.isCell=xs.all AV.isCell:=by
 induction xs generalizing vs with
 |nil=>simp only[AV.fits]at h;subst h;rfl
 |cons x xs a=>simp only[AV.fits]at h;obtain⟨v,r,rfl,h1,b⟩:=h;simp[AV.qd5 h1,a b]
theorem AV.qip{xs vs:List DV}(h:DV.fits xs vs):AV.fits (xs.map .d) (vs.map .d):=by
 induction xs generalizing vs with
 |nil=>simp only[DV.fits]at h;subst h;simp[AV.fits]
 |cons x xs a=>simp only[DV.fits]at h;obtain⟨v,r,rfl,h1,b⟩:=h;simp only[bo,AV.fits];exact⟨_,_,rfl,by simp only[AV.fit];exact⟨_,rfl,h1⟩,a b⟩
theorem AV.qin{xs vs:List DV}:AV.owns (xs.map .d) (vs.map .d)=DV.owns xs vs:=by
 induction xs generalizing vs with
 |nil=>simp[AV.owns,DV.owns]
 |cons x xs a=>cases vs<;>simp[AV.owns,DV.owns,AV.own,a]
theorem AV.qdY{x v:AV}(h:x.fit v):AV.fits [x] [v]:=by simp only[AV.fits];exact⟨_,_,rfl,h,rfl⟩
theorem AV.qa2{x v:AV}(h:x.fit v):AV.fits x.cells v.cells:=by
 have hh:=h;cases x<;>simp only[AV.fit]at h
 case d x=>
  obtain⟨y,rfl,h1⟩:=h;cases x<;>simp only[DV.fit]at h1
  case agg cs=>obtain⟨ds,rfl,h1⟩:=h1;exact AV.qip h1
  case sl g xs=>obtain⟨g',ys,rfl,b,a⟩:=h1;exact AV.qdY hh
  case tup cs=>obtain⟨ds,rfl,h1⟩:=h1;exact AV.qdY hh
  all_goals subst h1;exact AV.qdY hh
 case ep=>obtain⟨_,rfl,_⟩:=h;exact AV.qdY hh
 case fn=>obtain⟨_,rfl,_⟩:=h;exact AV.qdY hh
 case bsl=>obtain⟨_,rfl⟩:=h;exact AV.qdY hh
 case ag t cs=>
  obtain⟨_,rfl,h1,_⟩:=h;cases t with
  |false=>exact h1
  |true=>exact AV.qdY hh
 all_goals subst h;exact AV.qdY hh
theorem AV.qdo{x v:AV}(h:x.fit v):AV.owns x.cells v.cells=x.own v:=by
 cases x<;>simp only[AV.fit]at h
 case d x=>
  obtain⟨y,rfl,h1⟩:=h;cases x<;>simp only[DV.fit]at h1
  case agg cs=>obtain⟨ds,rfl,h1⟩:=h1;simp[AV.cells,AV.own,DV.own,AV.qin]
  case sl g xs=>obtain⟨g',ys,rfl,c,b⟩:=h1;simp[AV.cells,AV.owns]
  case tup cs=>obtain⟨ds,rfl,h1⟩:=h1;simp[AV.cells,AV.owns]
  all_goals subst h1;simp[AV.cells,AV.owns]
 case ep=>obtain⟨_,rfl,_⟩:=h;simp[AV.cells,AV.owns]
 case fn=>obtain⟨_,rfl,_⟩:=h;simp[AV.cells,AV.owns]
 case bsl=>obtain⟨_,rfl⟩:=h;simp[AV.cells,AV.owns]
 case ag t cs=>
  obtain⟨_,rfl,h1,a⟩:=h;cases t with
  |false=>simp[AV.cells,AV.own,a]
  |true=>simp[AV.cells,AV.owns]
 all_goals subst h;simp[AV.cells,AV.owns]
theorem AV.qby{x v:AV}(h:x.fit v):v.cells.length=x.cells.length:=(AV.qan (AV.qa2 h)).symm
mutual
theorem AV.qcK:∀(x v:AV),x.fit v->x.clr.fit v
 | .d x,v,h=>by
  simp only[AV.fit,AV.clr]at h⊢
  obtain⟨y,rfl,h1⟩:=h;exact⟨y,rfl,DV.qcK _ _ h1⟩
 | .ep cs,v,h=>by
  simp only[AV.fit,AV.clr]at h⊢
  obtain⟨ds,rfl,h1⟩:=h;exact⟨ds,rfl,DV.qbh _ _ h1⟩
 | .fn f cap,v,h=>by
  simp only[AV.fit,AV.clr]at h⊢
  obtain⟨ds,rfl,h1,_⟩:=h;obtain⟨b,c⟩:=AV.qbh cap ds h1;exact⟨ds,rfl,b,c⟩
 | .ptr i o,v,h=>by simpa only[AV.clr]using h
 | .nilp,v,h=>by simpa only[AV.clr]using h
 | .bsl id a i sz n,v,h=>by simpa only[AV.clr]using h
 | .tsl a i sz n,v,h=>by simpa only[AV.clr]using h
 | .ag t cap,v,h=>by
  simp only[AV.fit,AV.clr]at h⊢
  obtain⟨ds,rfl,h1,_⟩:=h;obtain⟨b,c⟩:=AV.qbh cap ds h1;exact⟨ds,rfl,b,c⟩
 | .und,v,h=>by simpa only[AV.clr]using h
theorem AV.qbh:∀(xs vs:List AV),AV.fits xs vs->AV.fits (AV.clrs xs) vs/\AV.owns (AV.clrs xs) vs=[]
 | [],vs,h=>by simp only[AV.fits,AV.clrs,AV.owns]at h⊢;exact⟨h,trivial⟩
 |x::xs,vs,h=>by
  simp only[AV.fits,AV.clrs]at h⊢
  obtain⟨v,vs,rfl,h1,b⟩:=h;obtain⟨c,a⟩:=AV.qbh xs vs b;refine⟨⟨v,vs,rfl,AV.qcK x v h1,c⟩,?_⟩;simp only[AV.owns,a,dq];cases x<;>cases v<;>simp[AV.clr,AV.own,DV.qbC,DV.qdW]
end
theorem AV.qbC(x v:AV):x.clr.own v=[]:=by cases x<;>cases v<;>simp[AV.clr,AV.own,DV.qbC,DV.qdW]
mutual
theorem AV.qkp(m:Nat):∀(x v:AV),x.fit v->v.safe m=x.safe m
 | .d x,v,h=>by simp only[AV.fit]at h;obtain⟨y,rfl,_⟩:=h;unfold AV.safe;rfl
 | .ep cs,v,h=>by simp only[AV.fit]at h;obtain⟨y,rfl,_⟩:=h;unfold AV.safe;rfl
 | .fn f cap,v,h=>by
  simp only[AV.fit]at h;obtain⟨y,rfl,h1,_⟩:=h;rw[AV.safe,AV.safe];exact AV.qme m cap y h1
 | .ptr i o,v,h=>by simp only[AV.fit]at h;subst h;rfl
 | .nilp,v,h=>by simp only[AV.fit]at h;subst h;rfl
 | .bsl id a i sz n,v,h=>by simp only[AV.fit]at h;obtain⟨_,rfl⟩:=h;unfold AV.safe;rfl
 | .tsl a i sz n,v,h=>by simp only[AV.fit]at h;subst h;rfl
 | .ag t cap,v,h=>by
  simp only[AV.fit]at h;obtain⟨y,rfl,h1,_⟩:=h;rw[AV.safe,AV.safe];exact AV.qme m cap y h1
 | .und,v,h=>by simp only[AV.fit]at h;subst h;rfl
theorem AV.qme(m:Nat):∀(xs vs:List AV),AV.fits xs vs->AV.safe.safes m vs=AV.safe.safes m xs
 | [],vs,h=>by simp only[AV.fits]at h;subst h;rfl
 |x::xs,vs,h=>by
  simp only[AV.fits]at h;obtain⟨v,vs,rfl,h1,a⟩:=h;rw[AV.safe.safes,AV.safe.safes,AV.qkp m x v h1,AV.qme m xs vs a]
end
mutual
theorem DV.qhb:∀x:DV,x.clr.clr=x.clr
 | .sl g xs=>by simp only[DV.clr,DV.qcS xs]
 | .agg cs=>by simp only[DV.clr,DV.qcS cs]
 | .tup cs=>by simp only[DV.clr,DV.qcS cs]
 | .int k n=>by simp only[DV.clr]
 | .bool b=>by simp only[DV.clr]
 | .str s=>by simp only[DV.clr]
theorem DV.qcS:∀l:List DV,DV.clrs (DV.clrs l)=DV.clrs l
 | []=>by simp only[DV.clrs]
 |x::xs=>by simp only[DV.clrs,DV.qhb x,DV.qcS xs]
end
mutual
theorem AV.qhb:∀x:AV,x.clr.clr=x.clr
 | .d x=>by simp only[AV.clr,DV.qhb]
 | .ep cs=>by simp only[AV.clr,DV.qcS]
 | .fn f cap=>by simp only[AV.clr,AV.qcS cap]
 | .ptr i o=>by simp only[AV.clr]
 | .nilp=>by simp only[AV.clr]
 | .bsl id a i sz n=>by simp only[AV.clr]
 | .tsl a i sz n=>by simp only[AV.clr]
 | .ag t cap=>by simp only[AV.clr,AV.qcS cap]
 | .und=>by simp only[AV.clr]
theorem AV.qcS:∀l:List AV,AV.clrs (AV.clrs l)=AV.clrs l
 | []=>by simp only[AV.clrs]
 |x::xs=>by simp only[AV.clrs,AV.qhb x,AV.qcS xs]
end
mutual
theorem AV.qbj:∀(x:AV),x.clr.fit x
 | .d x=>by simp only[AV.fit,AV.clr];exact⟨_,rfl,DV.qbj x⟩
 | .ep cs=>by simp only[AV.fit,AV.clr];exact⟨_,rfl,DV.qcR _⟩
 | .fn f cap=>by simp only[AV.fit,AV.clr];exact⟨_,rfl,AV.qcR cap,(AV.qmf cap)⟩
 | .ptr i o=>by simp[AV.fit,AV.clr]
 | .nilp=>by simp[AV.fit,AV.clr]
 | .bsl id a i sz n=>by simp[AV.fit,AV.clr]
 | .tsl a i sz n=>by simp[AV.fit,AV.clr]
 | .ag t cap=>by simp only[AV.fit,AV.clr];exact⟨_,rfl,AV.qcR cap,(AV.qmf cap)⟩
 | .und=>by simp[AV.fit,AV.clr]
theorem AV.qcR:∀(xs:List AV),AV.fits (AV.clrs xs) xs
 | []=>by simp[AV.fits,AV.clrs]
 |x::xs=>by simp only[AV.fits,AV.clrs];exact⟨_,_,rfl,AV.qbj x,AV.qcR xs⟩
theorem AV.qmf:∀(xs:List AV),AV.owns (AV.clrs xs) xs=[]
 | []=>by simp[AV.owns,AV.clrs]
 |x::xs=>by simp only[AV.owns,AV.clrs];rw[AV.qbC,AV.qmf xs];rfl
end
theorem DV.qFm(v:DV):v.cn1.fit v:=by
 unfold DV.cn1;split
 ·simp only[DV.fit,DV.fits];exact⟨_,_,rfl,rfl,.inr ⟨rfl,.inl ⟨rfl,.inl rfl⟩⟩⟩
 ·exact DV.qbj _
theorem DV.qFl(v w:DV):v.cn1.own w=[]:=by
 unfold DV.cn1;split
 ·cases w<;>simp[DV.own,DV.owns]
 ·exact DV.qbC _ _
theorem DV.qiq:∀l:List DV,DV.fits (l.map DV.cn1) l
 | []=>by simp[DV.fits]
 |x::xs=>by simp only[bo,DV.fits];exact⟨_,_,rfl,DV.qFm x,DV.qiq xs⟩
theorem DV.qgx:∀l m:List DV,DV.owns (l.map DV.cn1) m=[]
 | [],m=>by simp[DV.owns]
 |x::xs,m=>by cases m<;>simp[DV.owns,DV.qFl,DV.qgx xs]
theorem DV.qso(v:DV):v.cn.fit v:=by
 unfold DV.cn;split
 ·simp only[DV.fit];exact⟨_,rfl,DV.qiq _⟩
 ·exact DV.qFm _
theorem DV.qFk(v w:DV):v.cn.own w=[]:=by
 unfold DV.cn;split
 ·cases w<;>simp[DV.own,DV.qgx]
 ·exact DV.qFl _ _
theorem DV.qdp(e:DV):e.clr.cells=DV.clrs e.cells:=by cases e<;>simp[DV.clr,DV.cells,DV.clrs]
theorem DV.qcW(l:List DV):(DV.clrs l).length=l.length:=by simp[DV.qax]
theorem AV.qcW(l:List AV):(AV.clrs l).length=l.length:=by simp[AV.qax]
def fT(b a:List (Nat×AV)):Prop:=∀t x,lk b t=some x->∃v,lk a t=some v/\x.clr.fit v
theorem kP{d b:List (Nat×AV)}(h:fT d b){x:VX}{a:AV}(hx:x.get d=some a):∃v,x.get b=some v/\a.clr.fit v:=by
 cases x with
 |t n=>exact h n a hx
 |c v=>simp[VX.get]at hx⊢;subst hx;exact AV.qbj _
theorem ma{e c:List (Nat×AV)}(h:fT e c){x:VX}{a:DV}(hx:x.get e=some (.d a)):∃v,x.get c=some (.d v)/\a.clr.fit v:=by
 obtain⟨v,h1,b⟩:=kP h hx;simp only[AV.clr,AV.fit]at b;obtain⟨y,rfl,g⟩:=b;exact⟨y,h1,g⟩
theorem kV{c b:List (Nat×AV)}(h:fT c b){x:VX}{k:IntKind}{n:Int}(hx:x.get c=some (.d (.int k n))):x.get b=some (.d (.int k n)):=by
 obtain⟨v,h1,a⟩:=ma h hx;simp only[DV.clr,DV.fit]at a;subst a;exact h1
theorem Cp{d c:List (Nat×AV)}(h:fT d c){x:VX}{b:Bool}(hx:x.get d=some (ar b)):x.get c=some (ar b):=by
 obtain⟨v,h1,a⟩:=ma h hx;simp only[DV.clr,DV.fit]at a;subst a;exact h1
theorem C1{e c:List (Nat×AV)}(h:fT e c){x:VX}{b:ByteArray}(hx:x.get e=some (.d (.str b))):x.get c=some (.d (.str b)):=by
 obtain⟨v,h1,a⟩:=ma h hx;simp only[DV.clr,DV.fit]at a;subst a;exact h1
theorem xP{c b:List (Nat×AV)}(h:fT c b){x:VX}{g:Tag}{l:List DV}(hx:x.get c=some (.d (.sl g l))):∃g' ys,x.get b=some (.d (.sl g' ys))/\DV.fits (DV.clrs l) ys:=by
 obtain⟨v,h1,a⟩:=ma h hx;simp only[DV.clr,DV.fit]at a;obtain⟨g',ys,rfl,e,_⟩:=a;exact⟨g',ys,h1,e⟩
theorem KD{c b:List (Nat×AV)}(h:fT c b){x:VX}{l:List DV}(hx:x.get c=some (.d (.agg l))):∃ys,x.get b=some (.d (.agg ys))/\DV.fits (DV.clrs l) ys:=by
 obtain⟨v,h1,a⟩:=ma h hx;simp only[DV.clr,DV.fit]at a;obtain⟨ys,rfl,e⟩:=a;exact⟨ys,h1,e⟩
theorem Am{c b:List (Nat×AV)}(h:fT c b){x:VX}{i o:Nat}(hx:x.get c=some (.ptr i o)):x.get b=some (.ptr i o):=by
 obtain⟨v,h1,a⟩:=kP h hx;simp only[AV.clr,AV.fit]at a;subst a;exact h1
theorem ID{d b:List (Nat×AV)}(h:fT d b){x:VX}{a:Bool}{i s n:Nat}(hx:x.get d=some (.tsl a i s n)):x.get b=some (.tsl a i s n):=by
 obtain⟨v,h1,c⟩:=kP h hx;simp only[AV.clr,AV.fit]at c;subst c;exact h1
theorem Ko{e c:List (Nat×AV)}(h:fT e c){x:VX}{id:Id}{a:Bool}{i s n:Nat}(hx:x.get e=some (.bsl id a i s n)):∃b,x.get c=some (.bsl b a i s n):=by
 obtain⟨v,h1,d⟩:=kP h hx;simp only[AV.clr,AV.fit]at d;obtain⟨b,rfl⟩:=d;exact⟨b,h1⟩
theorem Ds{c b:List (Nat×AV)}(h:fT c b){x:VX}{l:List DV}(hx:x.get c=some (.ep l)):∃ys,x.get b=some (.ep ys)/\DV.fits (DV.clrs l) ys:=by
 obtain⟨v,h1,a⟩:=kP h hx;simp only[AV.clr,AV.fit]at a;obtain⟨ys,rfl,d⟩:=a;exact⟨ys,h1,d⟩
theorem Ti{op:BinOp}{a b c a' d:DV}(ha:a.clr.fit a')(hb:b.clr.fit d)(h:eR op a b=some c):eR op a' d=some c:=by
 cases a<;>cases b<;>simp only[eR]at h<;>(first|(simp at h;done)|skip)<;>simp only[DV.clr,DV.fit]at ha hb<;>subst ha<;>subst hb<;>exact h
theorem Ru:∀(ks:List Nat) (a b a' g:List DV),DV.fits (DV.clrs a) a'->DV.fits (DV.clrs b) g->∀r,dR ks a b=some r->dR ks a' g=some r:=by
 intro ks a b
 fun_induction dR ks a b<;>intro a' g ha hb r h<;>(first|(simp at h;done)|skip)
 all_goals simp only[DV.clrs,DV.fits]at ha hb
 case case1=>subst ha;subst hb;exact h
 all_goals
  obtain⟨v,vs,rfl,h1,l⟩:=ha;obtain⟨v',m,rfl,e,d⟩:=hb;simp only[DV.clr,DV.fit]at h1 e;subst h1;subst e
  simp_all[dR]
  try (obtain⟨c,q,n⟩:=h;rename_i j;rcases c with c|c;(exact .inl ((j _ _ l d).1 c));(exact .inr ((j _ _ l d).2 c)))
theorem Ma:∀(a a':List DV),DV.fits (DV.clrs a) a'->∀r,bytesOf a=some r->bytesOf a'=some r:=by
 intro a
 fun_induction bytesOf a<;>intro a' ha r h<;>(first|(simp at h;done)|skip)
 all_goals simp only[DV.clrs,DV.fits]at ha
 case case1=>subst ha;exact h
 all_goals
  obtain⟨v,vs,rfl,h1,c⟩:=ha;simp only[DV.clr,DV.fit]at h1;subst h1;rename_i b;obtain⟨q,d,rfl⟩:=au.1 h;simp[bytesOf,b _ c _ d]
theorem Jh{c b:List (Nat×AV)}(h:fT c b):∀{xs:List VX} {as:List AV},cO c xs=some as->∃vs,cO b xs=some vs/\AV.fits (AV.clrs as) vs
 | [],as,hx=>by simp[cO]at hx;subst hx;exact⟨[],rfl,by simp[AV.clrs,AV.fits]⟩
 |x::xs,as,hx=>by
  simp only[cO]at hx;obtain⟨a,h1,e⟩:=aw.1 hx;obtain⟨d,n,rfl⟩:=au.1 e;obtain⟨v,l,m⟩:=kP h h1;obtain⟨vs,j,g⟩:=Jh h n;exact⟨v::vs,by simp[cO,l,j],by simp only[AV.clrs,AV.fits];exact⟨_,_,rfl,m,g⟩⟩
theorem oG{e c:List (Nat×AV)}(h:fT e c){x:Option VX}{a:Option AV}(hx:cT e x=some a):∃v,cT c x=some v/\v.bind jw=a.bind jw/\(v=none↔a=none):=by
 cases x with
 |none=>simp[cT]at hx;subst hx;exact⟨none,rfl,rfl,Iff.rfl⟩
 |some x=>
  simp only[cT]at hx⊢
  obtain⟨a',h1,rfl⟩:=au.1 hx;obtain⟨v,g,b⟩:=kP h h1;refine⟨some v,by simp[g],?_,by simp⟩;simp only[aQ];cases a' with
  |d w=>
   cases w<;>simp only[AV.clr,DV.clr,AV.fit,DV.fit]at b
   case int k n=>obtain⟨y,rfl,rfl⟩:=b;rfl
   case sl=>obtain⟨y,rfl,_,_,rfl,_⟩:=b;rfl
   case agg=>obtain⟨y,rfl,_,rfl,_⟩:=b;rfl
   case tup=>obtain⟨y,rfl,_,rfl,_⟩:=b;rfl
   all_goals obtain⟨y,rfl,rfl⟩:=b;rfl
  |ep=>simp only[AV.clr,AV.fit]at b;obtain⟨_,rfl,_⟩:=b;rfl
  |fn=>simp only[AV.clr,AV.fit]at b;obtain⟨_,rfl,_⟩:=b;rfl
  |bsl=>simp only[AV.clr,AV.fit]at b;obtain⟨_,rfl⟩:=b;rfl
  |ag=>simp only[AV.clr,AV.fit]at b;obtain⟨_,rfl,_⟩:=b;rfl
  |_=>simp only[AV.clr,AV.fit]at b;subst b;rfl
theorem An{a v:Option AV}(h:v.bind jw=a.bind jw)(b:v=none↔a=none)(n:Nat):en n v=en n a:=by
 cases a<;>cases v<;>simp at h b
 ·rfl
 ·simp only[en,h]
theorem Bh{a v:Option AV}(h:v.bind jw=a.bind jw)(b:v=none↔a=none)(n:Nat):em n v=em n a:=by
 cases a<;>cases v<;>simp at h b
 ·rfl
 ·simp only[em,h]
def VOp.gen:VOp->Bool
 | .nilCheck _| .bin _ _ _| .eqAgg _ _ _ _| .eqB _ _ _| .not _| .conv _ _| .index _ _| .indexAddr _ _ _ _| .fieldAddr _ _| .slice _ _ _ _ _| .makeFunc _ _| .len _ _| .fail=>true
 |_=>false
theorem Ju{sz:Nat}{xs ys:List DV}(h:DV.fits (DV.clrs xs) ys)(hx:xs.all (fun e=>decide (e.cells.length=sz))=true):ys.all (fun e=>decide (e.cells.length=sz))=true:=by
 simp only[bu,ba]at hx⊢
 intro e he;obtain⟨i,hi⟩:=c9.1 he;obtain⟨h1,b⟩:=(DV.qbg _ _).1 h;rw[DV.qcW]at h1;have a:i<xs.length:=by rw[h1];exact(aK.1 hi).1
 have c:=b i (xs[i].clr) e (by simp[DV.qax,a]) hi;rw[DV.qby c,DV.qdp,DV.qcW];exact hx _ (il a)
theorem RR{S R:List (Nat×AV)}(h:fT S R){op:VOp}(Q:op.gen=true){a:AV}(ha:aA S op=some a):∃v,aA R op=some v/\a.clr.fit v:=by
 cases op<;>simp only[VOp.gen]at Q<;>(first|(simp at Q;done)|skip)
 case nilCheck x=>
  simp only[aA]at ha⊢
  split at ha<;>(first|(simp at ha;done)|skip)<;>rename_i h1<;>simp at ha<;>subst ha
  ·rw[Am h h1];exact⟨_,rfl,AV.qbj _⟩
  ·obtain⟨ys,j,d⟩:=Ds h h1;rw[j]
   exact⟨_,rfl,by simp only[AV.clr,AV.fit];exact⟨_,rfl,d⟩⟩
  ·obtain⟨v,j,d⟩:=kP h h1
   have J:=d;simp only[AV.clr,AV.fit]at J;obtain⟨c,rfl,_⟩:=J
   rw[j];exact⟨_,rfl,d⟩
 case bin op x y=>
  simp only[aA]at ha⊢
  split at ha<;>(first|(simp at ha;done)|skip)
  rename_i W P h1 j;obtain⟨c,d,rfl⟩:=au.1 ha;obtain⟨v1,q,r⟩:=ma h h1;obtain⟨v2,z,w⟩:=ma h j;rw[q,z];simp only[Ti r w d,bz];exact⟨_,rfl,AV.qbj _⟩
 case eqAgg neg ks x y=>
  simp only[aA]at ha⊢
  split at ha<;>(first|(simp at ha;done)|skip)
  rename_i W P h1 j;obtain⟨c,d,rfl⟩:=au.1 ha;obtain⟨v1,q,r⟩:=KD h h1;obtain⟨v2,z,w⟩:=KD h j;rw[q,z];simp only[Ru _ _ _ _ _ r w _ d,bz];exact⟨_,rfl,AV.qbj _⟩
 case eqB neg x y=>
  simp only[aA]at ha⊢
  split at ha<;>(first|(simp at ha;done)|skip)
  rename_i W P h1 j;simp at ha;subst ha
  rw[Cp h h1,Cp h j];exact⟨_,rfl,AV.qbj _⟩
 case not x=>
  simp only[aA]at ha⊢
  split at ha<;>(first|(simp at ha;done)|skip)
  rename_i P h1;simp at ha;subst ha
  rw[Cp h h1];exact⟨_,rfl,AV.qbj _⟩
 case conv c x=>
  cases c with
  |kind k=>
   simp only[aA]at ha⊢
   split at ha<;>(first|(simp at ha;done)|skip)
   rename_i k1 Z h1;simp at ha;subst ha
   rw[kV h h1];exact⟨_,rfl,AV.qbj _⟩
  |rune=>
   simp only[aA]at ha⊢
   split at ha<;>(first|(simp at ha;done)|skip)
   rename_i k1 Z h1;simp at ha;subst ha
   rw[kV h h1];exact⟨_,rfl,AV.qbj _⟩
  |bytes=>
   simp only[aA]at ha⊢
   split at ha<;>(first|(simp at ha;done)|skip)
   rename_i g1 l1 h1;obtain⟨c,d,rfl⟩:=au.1 ha;obtain⟨g',ys,q,r⟩:=xP h h1;rw[q];simp only[Ma _ _ r _ d,bz];exact⟨_,rfl,AV.qbj _⟩
 case index x i=>
  simp only[aA]at ha⊢
  split at ha<;>(first|(simp at ha;done)|skip)
  rename_i s k n h1 j;rw[C1 h h1,kV h j];simp only;split at ha
  ·rename_i d
   rw[ap d];obtain⟨b,q,rfl⟩:=au.1 ha;rw[q];exact⟨_,rfl,AV.qbj _⟩
  ·simp at ha
 case indexAddr sz arr x i=>
  cases arr with
  |none=>
   simp only[aA]at ha⊢
   split at ha
   ·rename_i g l k n h1 j
    obtain⟨g',ys,q,r⟩:=xP h h1;rw[q,kV h j];simp only;split at ha
    ·rename_i d
     rw[ap d];obtain⟨e,z,w⟩:=aw.1 ha;split at w
     ·rename_i H
      simp at w;subst w
      obtain⟨e',I,t⟩:=DV.qb3 r (x:=e.clr) (i:=n.toNat) (by simp[DV.qax,z]);have u:e'.cells.length=sz:=by rw[DV.qby t,DV.qdp,DV.qcW];exact H.1
      rw[I];simp only[aQ,u,H.2,eD,iN,and_self,if_true];have D:=DV.qa2 t;rw[DV.qdp]at D;exact⟨_,rfl,by simp only[AV.clr,AV.fit];exact⟨_,rfl,D⟩⟩
     ·simp at w
    ·simp at ha
   ·rename_i id ag b s' m k n h1 j
    obtain⟨N,q⟩:=Ko h h1;rw[q,kV h j];simp only;split at ha
    ·rename_i d
     rw[ap d];simp at ha;subst ha
     exact⟨_,rfl,AV.qbj _⟩
    ·simp at ha
   ·rename_i ag b s' m k n h1 j
    rw[ID h h1,kV h j];simp only;split at ha
    ·rename_i d
     rw[ap d];simp at ha;subst ha
     exact⟨_,rfl,AV.qbj _⟩
    ·simp at ha
   ·simp at ha
  |some m=>
   simp only[aA]at ha⊢
   split at ha
   ·rename_i b o k n h1 j
    rw[Am h h1,kV h j];simp only;split at ha
    ·rename_i d
     rw[ap d];simp at ha;subst ha
     exact⟨_,rfl,AV.qbj _⟩
    ·simp at ha
   ·rename_i l k n h1 j
    obtain⟨ys,q,r⟩:=Ds h h1;rw[q,kV h j];simp only;have C:=DV.qan r;rw[DV.qcW]at C;split at ha
    ·rename_i d
     rw[ap (by omega)];simp at ha;subst ha
     refine⟨_,rfl,?_⟩;simp only[AV.clr,AV.fit];have:=DV.qbu r (n.toNat*sz);rw[DV.qax,<-List.map_drop,<-DV.qax]at this;exact⟨_,rfl,this⟩
    ·simp at ha
   ·simp at ha
 case fieldAddr off x=>
  simp only[aA]at ha⊢
  split at ha
  ·rename_i b o h1
   rw[Am h h1];simp at ha;subst ha
   exact⟨_,rfl,AV.qbj _⟩
  ·rename_i l h1
   obtain⟨ys,q,r⟩:=Ds h h1;rw[q];simp only;have C:=DV.qan r;rw[DV.qcW]at C;split at ha
   ·rename_i d
    rw[ap (by omega)];simp at ha;subst ha
    refine⟨_,rfl,?_⟩;simp only[AV.clr,AV.fit];have:=DV.qbu r off;rw[DV.qax,<-List.map_drop,<-DV.qax]at this;exact⟨_,rfl,this⟩
   ·simp at ha
  ·simp at ha
 case slice str sz x lo hi=>
  cases str with
  |true=>
   simp only[aA]at ha⊢
   split at ha<;>(first|(simp at ha;done)|skip)
   rename_i s Y h' h1 j d;obtain⟨vl,q,r,z⟩:=oG h j;obtain⟨vh,w,H,I⟩:=oG h d;rw[C1 h h1,q,w];simp only;rw[An H I];obtain⟨hh,t,u⟩:=aw.1 ha;rw[t];simp only[aQ];rw[Bh r z];rw[u];obtain⟨ll,_,rfl⟩:=au.1 u;exact⟨_,rfl,AV.qbj _⟩
  |false=>
   simp only[aA]at ha⊢
   split at ha<;>(first|(simp at ha;done)|skip)
   rename_i g xs Y h' h1 j d;obtain⟨vl,q,r,z⟩:=oG h j;obtain⟨vh,w,H,I⟩:=oG h d;obtain⟨g',ys,D,G⟩:=xP h h1;rw[D,q,w];simp only;have C:=DV.qan G;rw[DV.qcW]at C;split at ha
   ·rename_i M
    rw[ap (Ju G M),An H I];obtain⟨hh,t,u⟩:=aw.1 ha;rw[<-C,t];simp only[aQ];rw[Bh r z];obtain⟨ll,K,rfl⟩:=au.1 u;rw[K];refine⟨_,rfl,?_⟩;simp only[AV.clr,DV.clr,AV.fit,DV.fit];refine⟨_,rfl,_,_,rfl,?_,.inl rfl⟩;have:=DV.qbu (DV.qbl G hh) ll;rw[DV.qax,<-List.map_take,<-List.map_drop,<-DV.qax]at this;exact this
   ·simp at ha
 case makeFunc f cs=>
  simp only[aA]at ha⊢
  obtain⟨vs,h1,rfl⟩:=au.1 ha;obtain⟨ws,j,d⟩:=Jh h h1;rw[j];refine⟨_,rfl,?_⟩;simp only[AV.clr,AV.fit];have:=AV.qbh _ _ d;refine⟨_,rfl,d,?_⟩;have O:∀l:List AV,AV.clrs (AV.clrs l)=AV.clrs l:=by
   intro l;simp only[AV.qax,eN]
   congr 1
   funext x
   exact AV.qhb x
  rw[<-O];exact this.2
 case len str x=>
  cases str with
  |true=>
   simp only[aA]at ha⊢
   split at ha<;>(first|(simp at ha;done)|skip)
   rename_i s h1;simp at ha;subst ha
   rw[C1 h h1];exact⟨_,rfl,AV.qbj _⟩
  |false=>
   simp only[aA]at ha⊢
   split at ha<;>(first|(simp at ha;done)|skip)
   ·rename_i g xs h1
    simp at ha;subst ha
    obtain⟨g',ys,q,r⟩:=xP h h1;have C:=DV.qan r;rw[DV.qcW]at C;rw[q,C];exact⟨_,rfl,AV.qbj _⟩
   ·rename_i h1
    simp at ha;subst ha
    obtain⟨N,q⟩:=Ko h h1;rw[q];exact⟨_,rfl,AV.qbj _⟩
   ·rename_i h1
    simp at ha;subst ha
    rw[ID h h1];exact⟨_,rfl,AV.qbj _⟩
 case fail=>simp[aA]at ha
open Classical
inductive Loc where
 |reg (t:Nat)
 |box (i:Nat)
def aW(B Bv:ah)(i:Nat):List Id:=
 match aI B i,aI Bv i with
 |some cs,some ds=>AV.owns cs ds
 |_,_=>[]
def a8(b a:List (Nat×AV))(t:Nat):List Id:=
 match lk b t,lk a t with
 |some x,some v=>x.own v
 |_,_=>[]
def ay(b:List (Nat×AV))(B:ah)(a:List (Nat×AV))(Bv:ah):Loc->List Id
 | .reg t=>a8 b a t
 | .box i=>aW B Bv i
def Fut(p:Id)(k:Nat)(a:Id):Prop:=∃q j,k<=j/\a=q++j::p
theorem Fut.le{p:Id}{k k':Nat}(h:k<=k'){a:Id}(b:Fut p k' a):Fut p k a:=by
 obtain⟨q,j,h1,c⟩:=b;exact⟨q,j,cN h h1,c⟩
theorem Fut.sub{p:Id}{c i:Nat}{a:Id}(b:Fut ((c+i)::p) 0 a):Fut p (c+i) a:=by
 obtain⟨q,j,h1,d⟩:=b;exact⟨q++[j],c+i,aU _,by rw[d];simp⟩
theorem Fut.qio{p:Id}{c i k:Nat}(m:c+i<k){a:Id}(e:Fut ((c+i)::p) 0 a):¬Fut p k a:=by
 obtain⟨q,j,h1,g⟩:=e
 rintro⟨r,l,n,b⟩
 rw[g]at b;have h:q++j::(c+i)::p=(q++[j])++((c+i)::p):=by simp
 rw[h]at b;obtain⟨_,d⟩:=pz b (by simp);simp at d;omega
theorem Fut.self(p:Id)(k:Nat):Fut p k (k::p):=⟨[],k,aU _,rfl⟩
theorem Fut.qkn{p:Id}{k k':Nat}(h:k<k'):¬Fut p k' (k::p):=by
 rintro⟨q,j,h1,a⟩
 have c:k::p=[]++(k::p):=rfl;rw[c]at a;obtain⟨_,b⟩:=pz a (by simp);simp at b;omega
structure Held(F Fu:Id->Prop)(A:Ids)(own:Loc->List Id):Prop where
 nodup:∀ℓ,(own ℓ).Nodup
 apart:∀ℓ ℓ' a,a∈own ℓ->a∈own ℓ'->ℓ=ℓ'
 opn:∀ℓ a,a∈own ℓ->A a=true/\¬F a/\¬Fu a
 fr:∀a,F a->A a=true/\¬Fu a
theorem Held.set{F Fu j:Id->Prop}{A A':Ids}{own b:Loc->List Id}(h:Held F Fu A own)(ℓ0:Loc)
 (c:∀ℓ,ℓ≠ℓ0->(b ℓ).Sublist (own ℓ)) (q:(b ℓ0).Nodup)
 (d:∀a,a∈b ℓ0->A' a=true/\¬F a/\¬j a/\∀ℓ,ℓ≠ℓ0->a∉b ℓ)
 (t:∀ℓ,ℓ≠ℓ0->∀a,a∈b ℓ->A' a=true) (s:∀a,F a->A' a=true) (l:∀a,j a->Fu a):Held F j A' b:=by
 refine⟨fun ℓ=> ?_,fun ℓ ℓ' a ha g=> ?_,fun ℓ a ha=> ?_,fun a ha=>⟨s a ha,fun m=>(h.fr a ha).2 (l a m)⟩⟩
 ·by_cases he:ℓ=ℓ0
  ·subst he;exact q
  ·exact(h.nodup ℓ).sublist (c ℓ he)
 ·by_cases he:ℓ=ℓ0
  ·by_cases e:ℓ'=ℓ0
   ·rw[he,e]
   ·subst he
    exact absurd g ((d a ha).2.2.2 ℓ' e)
  ·by_cases e:ℓ'=ℓ0
   ·subst e
    exact absurd ha ((d a g).2.2.2 ℓ he)
   ·exact h.apart ℓ ℓ' a ((c ℓ he).subset ha) ((c ℓ' e).subset g)
 ·by_cases he:ℓ=ℓ0
  ·subst he
   obtain⟨h1,n,r,_⟩:=d a ha;exact⟨h1,n,r⟩
  ·obtain⟨_,n,r⟩:=h.opn ℓ a ((c ℓ he).subset ha)
   exact⟨t ℓ he a ha,n,fun m=>r (l a m)⟩
theorem Held.shrink{F Fu e:Id->Prop}{A A':Ids}{own c:Loc->List Id}(h:Held F Fu A own)
 (b:∀ℓ,(c ℓ).Sublist (own ℓ)) (m:∀a,A a=true->(F a\/∃ℓ,a∈c ℓ)->A' a=true) (d:∀a,e a->Fu a):Held F e A' c:=by
 refine⟨fun ℓ=>(h.nodup ℓ).sublist (b ℓ),fun ℓ ℓ' a ha l=>h.apart ℓ ℓ' a ((b ℓ).subset ha) ((b ℓ').subset l),fun ℓ a ha=> ?_,fun a ha=> ?_⟩
 ·obtain⟨h1,j,n⟩:=h.opn ℓ a ((b ℓ).subset ha)
  exact⟨m a h1 (.inr ⟨ℓ,ha⟩),j,fun g=>n (d a g)⟩
 ·obtain⟨h1,j⟩:=h.fr a ha
  exact⟨m a h1 (.inl ha),fun g=>j (d a g)⟩
def qbb(B Bv:ah):Prop:=B.length=Bv.length/\∀i:Nat,(B[i]?=some none->Bv[i]?=some none)/\∀cs,B[i]?=some (some cs)->∃ds,Bv[i]?=some (some ds)/\AV.fits cs ds
structure Rel(A0:Ids)(T:List Nat)(F:Id->Prop)(p:Id)(k:Nat)(sx:XS)(sv:St):Prop where
 regs:∀t x,lk sx.r t=some x->∃v,lk sv.r t=some v/\x.fit v
 boxes:qbb sx.B sv.B
 held:Held F (Fut p k) sv.A (ay sx.r sx.B sv.r sv.B)
 nl:∀t,T.contains t=false->a8 sx.r sv.r t=[]
 no:∀t,lk sx.r t=none->lk sv.r t=none
 am:∀a,sv.A a=true->¬Fut p k a/\(A0 a=true\/Fut p 0 a)
theorem qbb.free{B Bv:ah}(h:qbb B Bv)(i:Nat):ct Bv i=ct B i:=by
 obtain⟨h1,a⟩:=h;unfold ct;cases hb:B[i]? with
 |none=>
  have:Bv[i]?=none:=by
   have:=xy.1 hb;exact f8 (by omega)
  simp[this]
 |some o=>cases o with
  |none=>rw[(a i).1 hb]
  |some cs=>obtain⟨ds,b,_⟩:=(a i).2 cs hb;rw[b]
theorem iH{B:ah}{i:Nat}{cs:List AV}:aI B i=some cs↔B[i]?=some (some cs):=by
 unfold aI;split
 ·rename_i h;simp[h]
 ·rename_i h;constructor
  ·simp
  ·intro a;exact absurd a (h cs)
theorem qbb.get{B Bv:ah}(h:qbb B Bv){i:Nat}{cs:List AV}(hb:aI B i=some cs):∃ds,aI Bv i=some ds/\AV.fits cs ds:=by
 obtain⟨ds,h1,a⟩:=(h.2 i).2 cs (iH.1 hb);exact⟨ds,iH.2 h1,a⟩
theorem qbb.set{B Bv:ah}(h:qbb B Bv)(i:Nat){cs ds:List AV}(g:AV.fits cs ds):qbb (B.set i (some cs)) (Bv.set i (some ds)):=by
 refine⟨by simpa using h.1,fun j=> ?_⟩
 by_cases hj:i=j
 ·subst hj
  constructor
  ·intro a
   rw[gR]at a;cases hb:B[i]?<;>simp[hb]at a
  ·intro c a
   rw[gR]at a⊢
   have b:i<B.length:=by
    rcases dZ i B.length with e|e
    ·exact e
    ·rw[f8 e]at a;simp at a
   have d:i<Bv.length:=by rw[<-h.1];exact b
   simp[b]at a;subst a
   simp[d,g]
 ·rw[dh hj,dh hj];exact h.2 j
theorem qbb.take{B Bv:ah}(h:qbb B Bv)(n:Nat):qbb (B.take n) (Bv.take n):=by
 refine⟨by simp[h.1],fun i=> ?_⟩;simp only[ew];split
 ·exact h.2 i
 ·simp
theorem qbb.more{B Bv:ah}(h:qbb B Bv)(n:Nat):qbb (B++List.replicate n none) (Bv++List.replicate n none):=by
 refine⟨by simp[h.1],fun i=> ?_⟩
 by_cases hi:i<B.length
 ·rw[bY hi,bY (by rw[<-h.1];exact hi)];exact h.2 i
 ·rw[cj (by omega),cj (by rw[<-h.1];omega),h.1]
  constructor
  ·exact id
  ·intro cs hc
   rw[DW]at hc;split at hc<;>simp at hc
theorem wB{B:ah}{i:Nat}{cs:List AV}(h:i<B.length):aI (B.set i (some cs)) i=some cs:=by
 rw[iH];simp[h]
theorem AS{B:ah}{i j:Nat}{c:Option (List AV)}(h:i≠j):aI (B.set i c) j=aI B j:=by
 unfold aI;rw[dh h]
theorem uI{B Bv:ah}{i:Nat}{cs ds:List AV}(h:i<B.length)(a:i<Bv.length):aW (B.set i (some cs)) (Bv.set i (some ds)) i=AV.owns cs ds:=by
 unfold aW;rw[wB h,wB a]
theorem sW{B Bv:ah}{i j:Nat}{c d:Option (List AV)}(h:i≠j):aW (B.set i c) (Bv.set i d) j=aW B Bv j:=by
 unfold aW;rw[AS h,AS h]
theorem EV{B Bv:ah}{i j:Nat}{c:Option (List AV)}(h:i≠j):aW (B.set i c) Bv j=aW B Bv j:=by
 unfold aW;rw[AS h]
theorem rS{B:ah}{n i:Nat}:aI (B.take n) i=if i<n then aI B i else none:=by
 unfold aI;simp only[ew];split<;>simp_all
theorem qER{B:ah}{n i:Nat}:aI (B++List.replicate n none) i=aI B i:=by
 unfold aI
 by_cases hi:i<B.length
 ·rw[bY hi]
 ·rw[cj (by omega),DW,f8 (by omega:B.length<=i)]
  split<;>simp_all
section
variable {A0:Ids} {T:List Nat} {F:Id->Prop} {p:Id} {k:Nat} {sx:XS} {sv:St}
theorem Rel.er(h:Rel A0 T F p k sx sv):fT sx.r sv.r:=fun t x hx=>by
 obtain⟨v,h1,a⟩:=h.regs t x hx;exact⟨v,h1,AV.qcK _ _ a⟩
theorem Rel.get(h:Rel A0 T F p k sx sv){x:VX}{a:AV}(hx:aY sx.r x=some a):∃v,x.get sv.r=some v/\a.fit v:=by
 cases x with
 |t n=>exact h.regs n a hx
 |c v=>
  cases v with
  |d v=>simp[aY,VX.get]at hx⊢;subst hx;simp only[AV.fit];exact⟨_,rfl,DV.qso v⟩
  |_=>simp[aY,VX.get]at hx⊢;subst hx;exact AV.qbj _
def b9(c b:List (Nat×AV))(x:VX):List Id:=
 match aY c x,x.get b with
 |some a,some v=>a.own v
 |_,_=>[]
theorem nr(b a:List (Nat×AV))(n:Nat):b9 b a (.t n)=a8 b a n:=rfl
theorem Ec(b a:List (Nat×AV))(v:AV):b9 b a (.c v)=[]:=by
 cases v with
 |d v=>simp[b9,aY,VX.get,AV.own,DV.qFk]
 |_=>simp only[b9,aY,VX.get,AV.qbC]
theorem eo{c b:List (Nat×AV)}{x:VX}{a v:AV}(h1:aY c x=some a)(d:x.get b=some v):b9 c b x=a.own v:=by
 simp[b9,h1,d]
theorem Rel.qdD(h:Rel A0 T F p k sx sv){x:VX}{a:Id}(ha:a∈b9 sx.r sv.r x):∃n,x= .t n/\T.contains n=true/\a∈a8 sx.r sv.r n:=by
 cases x with
 |c v=>rw[Ec]at ha;simp at ha
 |t n=>
  rw[nr]at ha;refine⟨n,rfl,?_,ha⟩;cases hn:T.contains n with
  |true=>rfl
  |false=>rw[h.nl n hn]at ha;simp at ha
theorem qNb(r:List (Nat×AV))(x:VX)(t:Nat):lk (ey T r x) t=if x= .t t/\T.contains t=true then(lk r t).map AV.clr else lk r t:=by
 cases x with
 |c v=>simp[ey]
 |t n=>
  simp only[ey]
  by_cases hn:T.contains n=true
  ·simp only[hn,if_true]
   cases hl:lk r n with
   |none=>
    by_cases a:n=t
    ·subst a;simp[hl]
    ·simp[a]
   |some v=>
    simp only[lk_cons']
    by_cases a:t=n
    ·subst a;have b:t∈T:=by simpa using hn
     simp[b,hl]
    ·have:¬n=t:=fun h=>a h.symm
     simp[a,this]
  ·have b:T.contains n=false:=by simpa using hn
   simp only[b,bI,if_false]
   by_cases a:n=t
   ·subst a;have d:¬n∈T:=by simpa using hn
    simp[d]
   ·simp[a]
where lk_cons' {t:Nat} {v:AV} {r:List (Nat×AV)} {n:Nat}:lk ((t,v)::r) n=if n=t then some v else lk r n:=rfl
theorem wo:∀(xs:List VX) (r:List (Nat×AV)) (t:Nat),lk (c7 T r xs) t=if VX.t t∈xs/\T.contains t=true then(lk r t).map AV.clr else lk r t
 | [],r,t=>by simp[c7]
 |x::xs,r,t=>by
  simp only[c7];rw[wo xs,qNb]
  by_cases c:T.contains t=true
  ·have a:t∈T:=by simpa using c
   by_cases h1:VX.t t∈xs
   ·by_cases b:x= .t t
    ·subst b
     simp only[h1,c,and_self,if_true,br,true_or,A_]
     congr 1;funext v;exact AV.qhb v
    ·have d:VX.t t≠x:=fun h=>b h.symm
     simp[h1,b,a,d]
   ·by_cases b:x= .t t
    ·subst b;simp[h1,a]
    ·have d:VX.t t≠x:=fun h=>b h.symm
     simp[h1,b,d]
  ·have a:¬t∈T:=by simpa using c
   simp[a]
theorem iP(xs:List VX)(r a:List (Nat×AV))(t:Nat):a8 (c7 T r xs) a t=if VX.t t∈xs/\T.contains t=true then []else a8 r a t:=by
 unfold a8;rw[wo]
 by_cases hc:VX.t t∈xs/\T.contains t=true
 ·rw[ap hc,ap hc]
  cases lk r t with
  |none=>rfl
  |some v=>cases lk a t with
   |none=>rfl
   |some u=>simp[AV.qbC]
 ·rw[ak hc,ak hc]
theorem Rel.drops(h:Rel A0 T F p k sx sv)(xs:List VX):Rel A0 T F p k ⟨c7 T sx.r xs,sx.B⟩ sv:=by
 refine⟨fun t x hx=> ?_,h.boxes,h.held.shrink (fun ℓ=> ?_) (fun a ha _=>ha) (fun _ c=>c),fun t b=> ?_,fun t b=> ?_,h.am⟩
 ·simp only at hx
  rw[wo]at hx;split at hx
  ·obtain⟨y,h1,rfl⟩:=au.1 hx
   obtain⟨v,d,e⟩:=h.regs t y h1;exact⟨v,d,AV.qcK _ _ e⟩
  ·exact h.regs t x hx
 ·cases ℓ with
  |reg t=>simp only[ay,iP];split<;>simp
  |box i=>simp[ay]
 ·simp only[iP];split
  ·rfl
  ·exact h.nl t b
 ·simp only at b
  rw[wo]at b;split at b
  ·exact h.no t (by simpa using b)
  ·exact h.no t b
theorem Rel.next(h:Rel A0 T F p k sx sv){k':Nat}(c:k<=k'):Rel A0 T F p k' sx sv:=
 ⟨h.regs,h.boxes,h.held.shrink (fun _=>bX _) (fun a ha _=>ha) (fun _ b=>b.le c),h.nl,h.no,fun a ha=>⟨fun b=>(h.am a ha).1 (b.le c),(h.am a ha).2⟩⟩
theorem Rel.put(h:Rel A0 T F p k sx sv)(dst:Option Nat){a v:AV}(e:a.fit v){A':Ids}{k':Nat}(n:k<=k')
 (j:cu T dst=true->(a.own v).Nodup/\∀i,i∈a.own v->A' i=true/\¬F i/\¬Fut p k' i/\∀ℓ,ℓ≠Loc.reg (dst.getD 0)->i∉ay sx.r sx.B sv.r sv.B ℓ)
 (q:∀i,sv.A i=true->(F i\/∃ℓ,i∈ay sx.r sx.B sv.r sv.B ℓ)->A' i=true) (u:∀a,A' a=true->sv.A a=true\/(Fut p 0 a/\¬Fut p k' a)) (c':Nat):
 Rel A0 T F p k' (aS T sx dst a) {(St.put {sv with A:=A'} dst v)with c:=c'}:=by
 have m:∀a,A' a=true->¬Fut p k' a/\(A0 a=true\/Fut p 0 a):=fun a ha=>by
  rcases u a ha with h1|⟨h1,s⟩
  ·exact⟨fun e=>(h.am a h1).1 (e.le n),(h.am a h1).2⟩
  ·exact⟨s,.inr h1⟩
 cases dst with
 |none=>
  exact⟨h.regs,h.boxes,h.held.shrink (fun _=>bX _) (fun i hi hx=>q i hi hx) (fun _ e=>e.le n),h.nl,h.no,m⟩
 |some d=>
  have g:∀t,t≠d->a8 (aS T sx (some d) a).r ((d,v)::sv.r) t=a8 sx.r sv.r t:=by
   intro t b;simp only[a8,aS,lk];rw[ak b,ak b]
  have hd:a8 (aS T sx (some d) a).r ((d,v)::sv.r) d=if T.contains d=true then a.own v else []:=by
   simp only[a8,aS,lk,if_true];split
   ·rfl
   ·exact AV.qbC _ _
  refine⟨fun t x hx=> ?_,h.boxes,?_,fun t b=> ?_,fun t b=> ?_,m⟩
  ·simp only[aS,lk]at hx
   simp only[St.put,lk];split at hx
   ·rename_i he
    rw[ap he];simp at hx;refine⟨v,rfl,?_⟩;split at hx
    ·subst hx;exact e
    ·subst hx;exact AV.qcK _ _ e
   ·rename_i he
    rw[ak he];exact h.regs t x hx
  ·simp only[St.put]
   by_cases l:T.contains d=true
   ·obtain⟨h1,s⟩:=j l
    refine h.held.set (Loc.reg d) (fun ℓ hℓ=> ?_) (by simp only[ay,hd,l,if_true];exact h1) (fun i hi=> ?_) (fun ℓ hℓ i hi=> ?_) (fun i hi=>q i (h.held.fr i hi).1 (.inl hi)) (fun _ e=>e.le n)
    ·cases ℓ with
     |reg t=>simp only[ay];rw[g t (fun he=>hℓ (by rw[he]))];exact bX _
     |box i=>exact bX _
    ·simp only[ay,hd,l,if_true]at hi
     obtain⟨z,w,y,C⟩:=s i hi;refine⟨z,w,y,fun ℓ hℓ=> ?_⟩;have:=C ℓ (by simpa using hℓ);cases ℓ with
     |reg t=>simp only[ay]at this⊢;rw[g t (fun he=>hℓ (by rw[he]))];exact this
     |box i=>exact this
    ·have:i∈ay sx.r sx.B sv.r sv.B ℓ:=by
      cases ℓ with
      |reg t=>simp only[ay]at hi⊢;rw[g t (fun he=>hℓ (by rw[he]))]at hi;exact hi
      |box i=>exact hi
     exact q i (h.held.opn ℓ i this).1 (.inr ⟨ℓ,this⟩)
   ·refine h.held.shrink (fun ℓ=> ?_) (fun i hi hx=>q i hi ?_) (fun _ e=>e.le n)
    ·cases ℓ with
     |reg t=>
      simp only[ay]
      by_cases b:t=d
      ·subst b;rw[hd,ak l];simp
      ·rw[g t b];exact bX _
     |box i=>exact bX _
    ·rcases hx with hx|⟨ℓ,hx⟩
     ·exact .inl hx
     ·refine .inr ⟨ℓ,?_⟩
      cases ℓ with
      |reg t=>
       simp only[ay]at hx⊢
       by_cases b:t=d
       ·subst b;rw[hd,ak l]at hx;simp at hx
       ·rw[g t b]at hx;exact hx
      |box i=>exact hx
  ·simp only[St.put]
   by_cases he:t=d
   ·subst he;rw[hd,ak (by rw[b];simp)]
   ·rw[g t he];exact h.nl t b
  ·simp only[aS,lk]at b
   simp only[St.put,lk];split at b
   ·simp at b
   ·rename_i he;rw[ak he];exact h.no t b
theorem Rel.put0(h:Rel A0 T F p k sx sv)(dst:Option Nat){a v:AV}(d:a.fit v)(b:a.own v=[]){k':Nat}(e:k<=k')(c':Nat):Rel A0 T F p k' (aS T sx dst a) {(sv.put dst v)with c:=c'}:=
 h.put dst d e (fun _=>by rw[b];simp) (fun i hi _=>hi) (fun _ hi=> .inl hi) c'
end
theorem lM{T:List Nat}{x:VX}{xs:List VX}(h:cS T (x::xs)=true):(∀n,x= .t n->T.contains n=true->VX.t n∉xs)/\cS T xs=true:=by
 simp only[cS,aF,bu,fi,List.any_eq_false]at h;refine⟨?_,h.2⟩
 rintro n rfl hn hm
 have h1:=h.1 n (by simp only[VX.linT,hn,if_true];simp);have:=h1 (.t n) hm;simp only[VX.linT,hn,if_true]at this;simp at this
section
variable {A0:Ids} {T:List Nat} {F:Id->Prop} {p:Id} {k:Nat} {sx:XS} {sv:St}
theorem Rel.qd4(h:Rel A0 T F p k sx sv){x y:VX}(hd:∀n,x= .t n->T.contains n=true->y≠.t n){a:Id}(ha:a∈b9 sx.r sv.r x):a∉b9 sx.r sv.r y:=by
 intro hb;obtain⟨n,rfl,hn,b⟩:=h.qdD ha;obtain⟨m,rfl,hm,c⟩:=h.qdD hb;have:=h.held.apart (.reg n) (.reg m) a b c;simp at this;exact hd n rfl hn (by rw[this])
theorem Rel.qa4(h:Rel A0 T F p k sx sv)(x:VX):(b9 sx.r sv.r x).Nodup:=by
 cases x with
 |c v=>rw[Ec];simp
 |t n=>rw[nr];exact h.held.nodup (.reg n)
theorem Rel.qcv(h:Rel A0 T F p k sx sv){xs:List VX}{x:VX}(hx:x∈xs){a:Id}(ha:a∈b9 sx.r sv.r x)(ℓ:Loc):a∉ay (c7 T sx.r xs) sx.B sv.r sv.B ℓ:=by
 obtain⟨n,rfl,hn,c⟩:=h.qdD ha;intro hm;have b:a∈ay sx.r sx.B sv.r sv.B ℓ:=by
  cases ℓ with
  |reg t=>simp only[ay,iP]at hm⊢;split at hm<;>first|(simp at hm;done)|exact hm
  |box i=>exact hm
 have:=h.held.apart (.reg n) ℓ a c b;subst this;simp only[ay,iP]at hm;rw[ap ⟨hx,hn⟩]at hm;simp at hm
theorem Rel.qbU(h:Rel A0 T F p k sx sv){x:VX}{a:Id}(ha:a∈b9 sx.r sv.r x):sv.A a=true/\¬F a/\¬Fut p k a:=by
 obtain⟨n,rfl,hn,b⟩:=h.qdD ha;exact h.held.opn (.reg n) a b
theorem FX{dst:Option Nat}(a:cu T dst=true)(s:XS)(xs:List VX):dV T dst s xs=⟨c7 T s.r xs,s.B⟩:=by simp[dV,a]
theorem G5{dst:Option Nat}(a:cu T dst=false)(s:XS)(xs:List VX):dV T dst s xs=s:=by simp[dV,a]
theorem Rel.give(h:Rel A0 T F p k sx sv)(dst:Option Nat)(xs:List VX){a v:AV}(d:a.fit v)(g:(a.own v).Nodup)(e:∀i,i∈a.own v->∃x,x∈xs/\i∈b9 sx.r sv.r x){k':Nat}(j:k<=k')(c':Nat):
 Rel A0 T F p k' (aS T (dV T dst sx xs) dst a) {(sv.put dst v)with c:=c'}:=by
 cases hl:cu T dst with
 |false=>
  rw[G5 hl];exact h.put dst d j (fun l=>by rw[hl]at l;simp at l) (fun i hi _=>hi) (fun _ hi=> .inl hi) c'
 |true=>
  rw[FX hl];refine(h.drops xs).put dst d j (fun _=>⟨g,fun i hi=> ?_⟩) (fun i hi _=>hi) (fun _ hi=> .inl hi) c';obtain⟨x,hx,b⟩:=e i hi;obtain⟨n,q,m⟩:=h.qbU b;exact⟨n,q,fun d=>m (d.le j),fun ℓ _=>h.qcv hx b ℓ⟩
theorem OV{a b c d:List DV}(h1:DV.fits a c)(e:DV.fits b d)(off:Nat):DV.fits (splice a off b) (splice c off d):=by
 unfold splice;rw[<-DV.qan e];exact DV.qaU (DV.qaU (DV.qbl h1 _) e) (DV.qbu h1 _)
theorem H5{a b c d:List AV}(h1:AV.fits a c)(e:AV.fits b d)(off:Nat):AV.fits (splice a off b) (splice c off d):=by
 unfold splice;rw[<-AV.qan e];exact AV.qaU (AV.qaU (AV.qbl h1 _) e) (AV.qbu h1 _)
theorem NZ{a b c d:List DV}(h1:DV.fits a c)(h:DV.fits b d)(off:Nat):DV.owns (splice a off b) (splice c off d)=DV.owns (a.take off) (c.take off)++DV.owns b d++DV.owns (a.drop (off+b.length)) (c.drop (off+b.length)):=by
 unfold splice;have e:=DV.qan h1;have g:=DV.qan h;rw[<-g,DV.qaR (by simp[e,g]),DV.qaR (by simp[e])]
theorem Ht{a b c d:List AV}(h1:AV.fits a c)(h:AV.fits b d)(off:Nat):AV.owns (splice a off b) (splice c off d)=AV.owns (a.take off) (c.take off)++AV.owns b d++AV.owns (a.drop (off+b.length)) (c.drop (off+b.length)):=by
 unfold splice;have e:=AV.qan h1;have g:=AV.qan h;rw[<-g,AV.qaR (by simp[e,g]),AV.qaR (by simp[e])]
theorem Hg{a c:List DV}(h:a.length=c.length)(off m:Nat):(DV.owns (a.take off) (c.take off)++DV.owns (a.drop (off+m)) (c.drop (off+m))).Sublist (DV.owns a c):=by
 rw[DV.qbN h off];refine gw (bX _) ?_;rw[DV.qbN (a:=a.drop off) (c:=c.drop off) (by simp[h]) m,kJ,kJ];exact gi _ _
theorem Fx{a c:List AV}(h:a.length=c.length)(off m:Nat):(AV.owns (a.take off) (c.take off)++AV.owns (a.drop (off+m)) (c.drop (off+m))).Sublist (AV.owns a c):=by
 rw[AV.qbN h off];refine gw (bX _) ?_;rw[AV.qbN (a:=a.drop off) (c:=c.drop off) (by simp[h]) m,kJ,kJ];exact gi _ _
theorem Ez{α:Type}{d m e w:List α}(hs:(d++e).Sublist w)(hw:w.Nodup)(hm:m.Nodup)(hd:∀a,a∈m->a∉w):(d++m++e).Nodup:=by
 have h1:=hw.sublist hs;rw[co]at h1;obtain⟨j,n,l⟩:=h1;have c:∀a,a∈d->a∈w:=fun a ha=>hs.subset (by simp[ha])
 have g:∀a,a∈e->a∈w:=fun a ha=>hs.subset (by simp[ha])
 rw[co];refine⟨?_,n,?_⟩
 ·rw[co]
  exact⟨j,hm,fun a ha b hb he=>hd b hb (by rw[<-he];exact c a ha)⟩
 ·intro a ha b hb he
  rcases bl.1 ha with h|h
  ·exact l a h b hb he
  ·exact hd a h (by rw[he];exact g b hb)
theorem EL(h:Rel A0 T F p k sx sv):∀(ps:List (Nat×Nat×VX)) (cs ds cs':List DV),cS T (ps.map fun q=>q.2.2)=true->dS (aY sx.r) cs ps=some cs'->DV.fits cs ds->(DV.owns cs ds).Nodup->
 (∀a,a∈DV.owns cs ds->∀x,x∈ps.map (fun q=>q.2.2)->a∉b9 sx.r sv.r x)->
 ∃b,dS (VX.get sv.r) ds ps=some b/\DV.fits cs' b/\(DV.owns cs' b).Nodup/\∀a,a∈DV.owns cs' b->a∈DV.owns cs ds\/∃x,x∈ps.map (fun q=>q.2.2)/\a∈b9 sx.r sv.r x
 | [],cs,ds,cs',_,hb,s,hn,_=>by simp[dS]at hb;subst hb;exact⟨ds,rfl,s,hn,fun a ha=> .inl ha⟩
 |(off,size,x)::ps,cs,ds,cs',hd,hb,s,hn,m=>by
  simp only[bo]at hd m;obtain⟨w,D⟩:=lM hd;simp only[dS]at hb;split at hb
  ·rename_i v J
   split at hb
   ·rename_i hc
    obtain⟨c1,c2,c3⟩:=hc;obtain⟨u,K,t⟩:=h.get J;simp only[AV.fit]at t;obtain⟨y,rfl,j⟩:=t;have l:=DV.qa2 j;have G:b9 sx.r sv.r x=v.own y:=by rw[eo J K];rfl
    have e:(DV.owns v.cells y.cells)=b9 sx.r sv.r x:=by rw[DV.qdo j,G]
    have H:=OV s l off;have d:=NZ s l off;have g:=Hg (DV.qan s) off v.cells.length;have I:(DV.owns (splice cs off v.cells) (splice ds off y.cells)).Nodup:=by
     rw[d];exact Ez g hn (by rw[e];exact h.qa4 x) (fun a ha hm=>m a hm x (by simp) (by rw[<-e];exact ha))
    have c:∀a,a∈DV.owns (splice cs off v.cells) (splice ds off y.cells)->a∈DV.owns cs ds\/a∈b9 sx.r sv.r x:=by
     intro a ha;rw[d]at ha;simp only[bl]at ha;rcases ha with(ha|ha)|ha
     ·exact .inl (g.subset (by simp[ha]))
     ·exact .inr (by rw[<-e];exact ha)
     ·exact .inl (g.subset (by simp[ha]))
    obtain⟨b,O,N,e3,M⟩:=EL h ps _ _ cs' D hb H I (fun a ha z hz=>by
     rcases c a ha with h1|h1
     ·exact m a h1 z (by simp[hz])
     ·refine h.qd4 (fun n hx hn he=> ?_) h1
      subst he;exact w n hx hn hz)
    refine⟨b,?_,N,e3,fun a ha=> ?_⟩
    ·simp only[dS,K]
     rw[ap ⟨by rw[DV.qby j];exact c1,by rw[<-DV.qan s];exact c2,by rw[DV.qbt l];exact c3⟩];exact O
    ·rcases M a ha with h1|⟨z,hz,h1⟩
     ·rcases c a h1 with C|C
      ·exact .inl C
      ·exact .inr ⟨x,by simp,C⟩
     ·exact .inr ⟨z,by simp only[bo,br];exact .inr hz,h1⟩
   ·simp at hb
  ·simp at hb
theorem wH{a c:List DV}(h:DV.fits a c){i:Nat}{x y:DV}(hx:x.fit y):DV.fits (a.set i x) (c.set i y):=by
 rw[DV.qbg]at h⊢
 refine⟨by simp[h.1],fun j u v d b=> ?_⟩
 by_cases hj:i=j
 ·subst hj
  rw[gR]at d b;cases ha:a[i]?<;>cases hc:c[i]?<;>simp[ha,hc]at d b
  subst d;subst b;exact hx
 ·rw[dh hj]at d b;exact h.2 j u v d b
theorem lZ{a c:List DV}(h:DV.fits a c){i:Nat}(hi:i<a.length)(x y:DV):DV.owns (a.set i x) (c.set i y)=DV.owns (a.take i) (c.take i)++x.own y++DV.owns (a.drop (i+1)) (c.drop (i+1)):=by
 have b:=DV.qan h;have d:∀(l:List DV) (z:DV),i<l.length->l.set i z=l.take i++z::l.drop (i+1):=fun l z b=>by
  rw[rZ,ap b]
 rw[d a x hi,d c y (by omega),DV.qaR (by simp[b])];simp[DV.owns,b7]
theorem EN(h:Rel A0 T F p k sx sv)(sz:Nat):∀(ps:List (Nat×VX)) (cs ds cs':List DV),cS T (ps.map fun q=>q.2)=true->cF (aY sx.r) sz cs ps=some cs'->DV.fits cs ds->(∀e:DV,e∈ds->e.cells.length=sz)->(DV.owns cs ds).Nodup->
 (∀a,a∈DV.owns cs ds->∀x,x∈ps.map (fun q=>q.2)->a∉b9 sx.r sv.r x)->
 ∃b,cF (VX.get sv.r) sz ds ps=some b/\DV.fits cs' b/\(∀e:DV,e∈b->e.cells.length=sz)/\(DV.owns cs' b).Nodup/\∀a,a∈DV.owns cs' b->a∈DV.owns cs ds\/∃x,x∈ps.map (fun q=>q.2)/\a∈b9 sx.r sv.r x
 | [],cs,ds,cs',_,hb,s,hz,hn,_=>by simp[cF]at hb;subst hb;exact⟨ds,rfl,s,hz,hn,fun a ha=> .inl ha⟩
 |(i,x)::ps,cs,ds,cs',hd,hb,s,hz,hn,m=>by
  simp only[bo]at hd m;obtain⟨w,D⟩:=lM hd;simp only[cF]at hb;split at hb
  ·rename_i v K
   split at hb
   ·rename_i hc
    obtain⟨c1,c2,c3⟩:=hc;obtain⟨u,M,t⟩:=h.get K;simp only[AV.fit]at t;obtain⟨y,rfl,c⟩:=t;have I:=DV.qa2 c;have j:b9 sx.r sv.r x=v.own y:=by rw[eo K M];rfl
    have G:=wH s (i:=i) c;have g:=lZ s c2 v y;have l:=Hg (DV.qan s) i 1;have J:∀e:DV,e∈ds.set i y->e.cells.length=sz:=by
     intro e he;rcases qh he with h1|h1
     ·exact hz e h1
     ·subst h1;rw[DV.qby c];exact c1
    have H:(DV.owns (cs.set i v) (ds.set i y)).Nodup:=by
     rw[g];exact Ez l hn (by rw[<-j];exact h.qa4 x) (fun a ha hm=>m a hm x (by simp) (by rw[j];exact ha))
    have d:∀a,a∈DV.owns (cs.set i v) (ds.set i y)->a∈DV.owns cs ds\/a∈b9 sx.r sv.r x:=by
     intro a ha;rw[g]at ha;simp only[bl]at ha;rcases ha with(ha|ha)|ha
     ·exact .inl (l.subset (by simp[ha]))
     ·exact .inr (by rw[j];exact ha)
     ·exact .inl (l.subset (by simp[ha]))
    obtain⟨b,P,O,Q,e3,N⟩:=EN h sz ps _ _ cs' D hb G J H (fun a ha z hz=>by
     rcases d a ha with h1|h1
     ·exact m a h1 z (by simp[hz])
     ·refine h.qd4 (fun n hx hn he=> ?_) h1
      subst he;exact w n hx hn hz)
    refine⟨b,?_,O,Q,e3,fun a ha=> ?_⟩
    ·simp only[cF,M]
     rw[ap ⟨by rw[DV.qby c];exact c1,by rw[<-DV.qan s];exact c2,by rw[DV.qbt I];exact c3⟩];exact P
    ·rcases N a ha with h1|⟨z,hz,h1⟩
     ·rcases d a h1 with C|C
      ·exact .inl C
      ·exact .inr ⟨x,by simp,C⟩
     ·exact .inr ⟨z,by simp only[bo,br];exact .inr hz,h1⟩
   ·simp at hb
  ·simp at hb
theorem Rel.box(h:Rel A0 T F p k sx sv)(xs:List VX)(i:Nat){cs ds:List AV}(d:AV.fits cs ds)(hi:i<sx.B.length)(l:(AV.owns cs ds).Nodup)
 (c:∀a,a∈AV.owns cs ds->a∈aW sx.B sv.B i\/∃x,x∈xs/\a∈b9 sx.r sv.r x):
 Rel A0 T F p k ⟨c7 T sx.r xs,sx.B.set i (some cs)⟩ {sv with B:=sv.B.set i (some ds)}:=by
 have n:i<sv.B.length:=by rw[<-h.boxes.1];exact hi
 have hb:∀j,j≠i->aW (sx.B.set i (some cs)) (sv.B.set i (some ds)) j=aW sx.B sv.B j:=fun j hj=>sW (fun he=>hj he.symm)
 have b:aW (sx.B.set i (some cs)) (sv.B.set i (some ds)) i=AV.owns cs ds:=uI hi n;refine⟨(h.drops xs).regs,h.boxes.set i d,?_,(h.drops xs).nl,(h.drops xs).no,h.am⟩;refine h.held.set (Loc.box i) (fun ℓ hℓ=> ?_) (by simp only[ay,b];exact l) (fun a ha=> ?_) (fun ℓ hℓ a ha=> ?_) (fun a ha=>(h.held.fr a ha).1) (fun _ d=>d)
 ·cases ℓ with
  |reg t=>simp only[ay,iP];split<;>simp
  |box j=>simp only[ay];rw[hb j (fun he=>hℓ (by rw[he]))];exact bX _
 ·simp only[ay,b]at ha
  have gone:∀ℓ,ℓ≠Loc.box i->a∉ay (c7 T sx.r xs) sx.B sv.r sv.B ℓ->a∉ay (c7 T sx.r xs) (sx.B.set i (some cs)) sv.r (sv.B.set i (some ds)) ℓ:=by
   intro ℓ hℓ hn;cases ℓ with
   |reg t=>exact hn
   |box j=>simp only[ay]at hn⊢;rw[hb j (fun he=>hℓ (by rw[he]))];exact hn
  rcases c a ha with h1|⟨x,hx,h1⟩
  ·obtain⟨m,e,g⟩:=h.held.opn (.box i) a h1
   refine⟨m,e,g,fun ℓ hℓ=>gone ℓ hℓ fun hm=>hℓ ?_⟩;refine(h.held.apart (.box i) ℓ a h1 ?_).symm;cases ℓ with
   |reg t=>simp only[ay,iP]at hm⊢;split at hm<;>first|(simp at hm;done)|exact hm
   |box j=>exact hm
  ·obtain⟨m,e,g⟩:=h.qbU h1
   exact⟨m,e,g,fun ℓ hℓ=>gone ℓ hℓ (h.qcv hx h1 ℓ)⟩
 ·have:a∈ay sx.r sx.B sv.r sv.B ℓ:=by
   cases ℓ with
   |reg t=>simp only[ay,iP]at ha⊢;split at ha<;>first|(simp at ha;done)|exact ha
   |box j=>simp only[ay]at ha⊢;rw[hb j (fun he=>hℓ (by rw[he]))]at ha;exact ha
  exact(h.held.opn ℓ a this).1
end
def gr(X:bM)(V:aZ)(lin:Nat->List Nat):Prop:=
 ∀f xs B v' B',X f xs B=some (v',B')->∀p vs Bv A F,AV.fits xs vs->qbb B Bv->Held F (Fut p 0) A (ay (aV 0 xs) B (aV 0 vs) Bv)->
  (∀j,(lin f).contains j=false->a8 (aV 0 xs) (aV 0 vs) j=[])->(∀a,A a=true->¬Fut p 0 a)->
  ∃v Bv' A',V p f vs Bv A=some ⟨v,A',Bv'⟩/\v'.fit v/\qbb B' Bv'/\Held F (fun _=>False) A' (ay [(0,v')] B' [(0,v)] Bv')/\
   ∀a,A' a=true->A a=true\/Fut p 0 a
theorem j4:∀(args:List AV) (i t:Nat),lk (aV i args) t=if i<=t then args[t-i]? else none
 | [],i,t=>by simp[aV,lk]
 |x::xs,i,t=>by
  simp only[aV,lk]
  by_cases a:t=i
  ·subst a;simp
  ·rw[ak a,j4 xs]
   by_cases h1:i+1<=t
   ·rw[ap h1,ap (by omega),show t-i=(t-(i+1))+1 by omega];simp
   ·rw[ak h1,ak (by omega)]
theorem mV(xs vs:List AV)(t:Nat):a8 (aV 0 xs) (aV 0 vs) t=match xs[t]?,vs[t]? with|some x,some v=>x.own v|_,_=>[]:=by
 unfold a8;rw[j4,j4];simp only[cE,if_true,kb]
 all_goals (cases xs[t]?<;>cases vs[t]?<;>rfl)
theorem jO{xs:List AV}{ds:List DV}(h:aM xs=some ds){vs:List AV}(a:AV.fits xs vs):∃es,aM vs=some es/\DV.fits ds es/\AV.owns xs vs=DV.owns ds es:=by
 induction xs generalizing ds vs with
 |nil=>simp[aM]at h;subst h;simp only[AV.fits]at a;subst a;exact⟨[],rfl,by simp[DV.fits],by simp[AV.owns,DV.owns]⟩
 |cons x xs c=>
  cases x with
  |d d=>
   simp only[aM]at h;obtain⟨l,h1,rfl⟩:=au.1 h;simp only[AV.fits]at a;obtain⟨v,r,rfl,b,m⟩:=a;simp only[AV.fit]at b;obtain⟨y,rfl,j⟩:=b;obtain⟨es,n,g,e⟩:=c h1 m;exact⟨y::es,by simp[aM,n],by simp only[DV.fits];exact⟨_,_,rfl,j,g⟩,by simp[AV.owns,DV.owns,AV.own,e]⟩
  |_=>simp[aM]at h
theorem CG{A0:Ids}{T:List Nat}{F:Id->Prop}{p:Id}{k:Nat}{sx:XS}{sv:St}(h:Rel A0 T F p k sx sv):∀{xs:List VX} {as:List AV},f9 sx.r xs=some as->∃vs,cO sv.r xs=some vs/\AV.fits as vs/\as.length=xs.length/\
 ∀(j:Nat) (a v:AV) (x:VX),as[j]?=some a->vs[j]?=some v->xs[j]?=some x->a.own v=b9 sx.r sv.r x
 | [],as,hx=>by simp[f9]at hx;subst hx;exact⟨[],rfl,by simp[AV.fits],rfl,by simp⟩
 |x::xs,as,hx=>by
  simp only[f9]at hx;obtain⟨a,h1,l⟩:=aw.1 hx;obtain⟨e,n,rfl⟩:=au.1 l;obtain⟨v,d,m⟩:=h.get h1;obtain⟨vs,g,q,t,s⟩:=CG h n;refine⟨v::vs,by simp[cO,d,g],by simp only[AV.fits];exact⟨_,_,rfl,m,q⟩,by simp[t],fun j b u y hb c hy=> ?_⟩;cases j with
  |zero=>simp at hb c hy;subst hb;subst c;subst hy;exact(eo h1 d).symm
  |succ j=>simp at hb c hy;exact s j b u y hb c hy
theorem CZ(LP:List Nat):∀(vs:List AV) (j:Nat),(cK LP j vs).length=vs.length
 | [],j=>rfl
 |v::r,j=>by simp[cK,CZ LP r]
theorem rq(LP:List Nat):∀(vs:List AV) (j i:Nat),(cK LP j vs)[i]?=(vs[i]?).map fun v=>if LP.contains (j+i)then v else v.clr
 | [],j,i=>by simp[cK]
 |v::r,j,i=>by
  cases i with
  |zero=>simp[cK]
  |succ i=>simp only[cK,lH];rw[rq LP r];congr 1;funext v;rw[show j+1+i=j+(i+1)by omega]
theorem BE{LP:List Nat}{as vs:List AV}(h:AV.fits as vs)(j:Nat):AV.fits (cK LP j as) vs:=by
 rw[AV.qbg]at h⊢
 refine⟨by rw[CZ];exact h.1,fun i x v hx a=> ?_⟩;rw[rq]at hx;obtain⟨y,h1,rfl⟩:=au.1 hx;have:=h.2 i y v h1 a;split
 ·exact this
 ·exact AV.qcK _ _ this
theorem DO(LP:List Nat):∀(xs:List VX) (j i:Nat) (x:VX),xs[i]?=some x->LP.contains (j+i)=true->x∈dr LP j xs
 | [],j,i,x,h,_=>by simp at h
 |y::r,j,i,x,h,hc=>by
  cases i with
  |zero=>simp at h hc;subst h;simp[dr,hc]
  |succ i=>
   simp at h;have:=DO LP r (j+1) i x h (by rw[show j+1+i=j+(i+1)by omega];exact hc);simp only[dr];split
   ·exact dH _ this
   ·exact this
theorem AU{T LP:List Nat}:∀(xs:List VX) (j i a:Nat) (x x':VX),cS T (dr LP j xs)=true->xs[i]?=some x->xs[a]?=some x'->LP.contains (j+i)=true->LP.contains (j+a)=true->i<a->∀n,x= .t n->T.contains n=true->x'≠.t n
 | [],j,i,a,x,x',_,h,_,_,_,_=>by simp at h
 |y::r,j,i,a,x,x',hd,h,e,hc,b,g=>by
  intro n hx hn he;obtain⟨a,rfl⟩:∃m,a=m+1:=⟨a-1,by omega⟩;simp at e;cases i with
  |zero=>
   simp at h hc;subst h
   have d:LP.contains j=true:=by simpa using hc
   simp only[dr,d,if_true]at hd;obtain⟨h1,_⟩:=lM hd;refine h1 n hx hn ?_;rw[<-he];exact DO LP r (j+1) a x' e (by rw[show j+1+a=j+(a+1)by omega];exact b)
  |succ i=>
   simp at h;have c:cS T (dr LP (j+1) r)=true:=by
    simp only[dr]at hd;split at hd
    ·exact(lM hd).2
    ·exact hd
   exact AU r (j+1) i a x x' c h e (by rw[show j+1+i=j+(i+1)by omega];exact hc) (by rw[show j+1+a=j+(a+1)by omega];exact b) (by omega) n hx hn he
section
variable {A0:Ids} {T:List Nat} {F:Id->Prop} {p:Id} {k:Nat} {sx sx':XS} {sv:St} {X:bM} {V:aZ} {lin:Nat->List Nat} {draw:Bool} {L0 i:Nat} {o:VOper}
theorem KP{x v:AV}(h:x.fit v):v.plainT=x.plainT/\(x.plainT=true->x.own v=[]):=by
 cases x<;>simp only[AV.fit]at h
 case d x=>
  obtain⟨y,rfl,h1⟩:=h;cases x<;>simp only[DV.fit]at h1
  case sl g xs=>
   obtain⟨g',ys,rfl,b,_⟩:=h1;cases xs with
   |nil=>simp only[DV.fits]at b;subst b;exact⟨rfl,fun _=>by simp[AV.own,DV.own,DV.owns]⟩
   |cons a r=>simp only[DV.fits]at b;obtain⟨_,_,rfl,_⟩:=b;exact⟨rfl,fun h=>by simp[AV.plainT]at h⟩
  case agg cs=>obtain⟨_,rfl,_⟩:=h1;exact⟨rfl,fun h=>by simp[AV.plainT]at h⟩
  case tup cs=>obtain⟨_,rfl,_⟩:=h1;exact⟨rfl,fun h=>by simp[AV.plainT]at h⟩
  all_goals subst h1;exact⟨rfl,fun _=>by simp[AV.own,DV.own]⟩
 case ep=>obtain⟨_,rfl,_⟩:=h;exact⟨rfl,fun h=>by simp[AV.plainT]at h⟩
 case fn=>obtain⟨_,rfl,_⟩:=h;exact⟨rfl,fun h=>by simp[AV.plainT]at h⟩
 case bsl=>obtain⟨_,rfl⟩:=h;exact⟨rfl,fun h=>by simp[AV.plainT]at h⟩
 case ag=>obtain⟨_,rfl,_⟩:=h;exact⟨rfl,fun h=>by simp[AV.plainT]at h⟩
 all_goals subst h;exact⟨rfl,fun _=>by simp[AV.own]⟩
theorem Ka:∀{xs vs:List AV},AV.fits xs vs->vs.all AV.plainT=xs.all AV.plainT
 | [],vs,h=>by simp only[AV.fits]at h;subst h;rfl
 |x::xs,vs,h=>by
  simp only[AV.fits]at h;obtain⟨v,vs,rfl,h1,a⟩:=h;simp only[fM,(KP h1).1,Ka a]
theorem KZ:∀{xs vs:List AV},AV.fits xs vs->xs.all AV.plainT=true->AV.owns xs vs=[]
 | [],vs,h,_=>by simp[AV.owns]
 |x::xs,vs,h,a=>by
  simp only[AV.fits]at h;obtain⟨v,vs,rfl,h1,b⟩:=h;simp only[fM,aF]at a;simp only[AV.owns,(KP h1).2 a.1,KZ b a.2];rfl
theorem FZ:∀{xs vs:List AV},aM xs=none->AV.fits xs vs->aM vs=none
 | [],vs,h,_=>by simp[aM]at h
 |x::xs,vs,h,a=>by
  simp only[AV.fits]at a;obtain⟨v,vs,rfl,h1,b⟩:=a;cases x<;>simp only[AV.fit]at h1
  case d x=>
   obtain⟨y,rfl,_⟩:=h1;simp only[aM,Fs]at h⊢
   exact FZ h b
  case ep=>obtain⟨_,rfl,_⟩:=h1;rfl
  case fn=>obtain⟨_,rfl,_⟩:=h1;rfl
  case bsl=>obtain⟨_,rfl⟩:=h1;rfl
  case ag=>obtain⟨_,rfl,_⟩:=h1;rfl
  all_goals subst h1;rfl
theorem xm{B Bv:ah}(h:qbb B Bv){agg:Bool}{sz b off:Nat}{v:AV}(a:aG B agg sz b off=some v):
 ∃u cs ds,aG Bv agg sz b off=some u/\v.fit u/\aI B b=some cs/\aI Bv b=some ds/\AV.fits cs ds/\v.own u=AV.owns ((cs.drop off).take (if agg then sz else 1)) ((ds.drop off).take (if agg then sz else 1))/\off+(if agg then sz else 1)<=cs.length:=by
 unfold aG at a⊢
 obtain⟨cs,hcs,a⟩:=aw.1 a;obtain⟨ds,j,e⟩:=h.get hcs;rw[j];simp only[aQ];cases agg with
 |true=>
  simp only[if_true]at a⊢
  split at a
  ·rename_i hle
   have c:=AV.qbl (AV.qbu e off) sz;rw[ap (by rw[<-AV.qan e];exact hle)];cases h1:aM ((cs.drop off).take sz)with
   |none=>
    rw[h1]at a;simp only[jg]at a;split at a
    ·rename_i n
     simp only[aB]at a;subst a
     rw[FZ h1 c];simp only[jg];rw[Ka c,ap n];have m:=KZ c n;exact⟨_,cs,ds,rfl,by simp only[AV.fit];exact⟨_,rfl,c,m⟩,hcs,rfl,e,by rw[m];simp[AV.own],hle⟩
    ·simp at a
   |some es=>
   rw[h1]at a;simp only[jg,aB]at a;subst a;obtain⟨es',l,r,q⟩:=jO h1 c;rw[l];simp only[jg];refine⟨_,cs,ds,rfl,by simp only[AV.fit,DV.fit];exact⟨_,rfl,_,rfl,r⟩,hcs,rfl,e,?_,hle⟩;rw[q];simp[AV.own,DV.own]
  ·simp at a
 |false=>
  simp only[bI,if_false]at a⊢
  obtain⟨u,h1,l⟩:=AV.qb3 e a;have g:off<cs.length:=(aK.1 a).1;have d:off<ds.length:=(aK.1 h1).1;refine⟨u,cs,ds,h1,l,hcs,rfl,e,?_,by omega⟩;rw[cW g,cW d];have t:cs[off]=v:=by rw[eh g]at a;exact sE a
  have s:ds[off]=u:=by rw[eh d]at h1;exact sE h1
  simp[AV.owns,t,s]
theorem FV{agg:Bool}{sz:Nat}{cs ds:List DV}{v:DV}(a:DV.fits cs ds)(h:cut agg sz cs=some v):∃u,cut agg sz ds=some u/\v.fit u:=by
 unfold cut at h⊢
 cases agg with
 |true=>
  simp only[if_true]at h⊢
  split at h
  ·rename_i hle
   simp at h;subst h
   rw[ap (by rw[<-DV.qan a];exact hle)];exact⟨_,rfl,by simp only[DV.fit];exact⟨_,rfl,DV.qbl a _⟩⟩
  ·simp at h
 |false=>
  simp only[bI,if_false]at h⊢
  exact DV.qb3 a h
theorem Rel.takeBox(h:Rel A0 T F p k sx sv)(dst:Option Nat){agg:Bool}{sz b off:Nat}{v:AV}(Z:aG sx.B agg sz b off=some v){k':Nat}(J:k<=k')(c':Nat):
 ∃u,aG sv.B agg sz b off=some u/\Rel A0 T F p k' (aS T (if cu T dst then⟨sx.r,gG sx.B b off (if agg then sz else 1)⟩else sx) dst v) {(sv.put dst u)with c:=c'}:=by
 obtain⟨u,cs,ds,h1,R,Q,P,y,W,h7⟩:=xm h.boxes Z;refine⟨u,h1,?_⟩;generalize (if agg then sz else 1)=m at W h7⊢
 have hb:b<sx.B.length:=by
  rcases dZ b sx.B.length with hh|hh
  ·exact hh
  ·have:=iH.1 Q;rw[f8 hh]at this;simp at this
 have n:aW sx.B sv.B b=AV.owns cs ds:=by unfold aW;rw[Q,P]
 cases hT:cu T dst with
 |false=>
  simp only[bI,if_false];exact h.put dst R J (fun Y=>by rw[hT]at Y;simp at Y) (fun i hi _=>hi) (fun _ hi=> .inl hi) c'
 |true=>
  simp only[if_true];have C:=AV.qbl (AV.qbu y off) m;obtain⟨z,O⟩:=AV.qbh _ _ C;have hlen:=AV.qan y;have hsp:splice ds off ((ds.drop off).take m)=ds:=by
   unfold splice;rw[sk,Pu,tK (by omega),b7,<-List.drop_drop,du,du]
  have D:=H5 y z off;rw[hsp]at D;have l:=Ht y z off;rw[hsp,O,AV.qcW,dq]at l;have N:((cs.drop off).take m).length=m:=by simp;omega
  rw[N]at l;have G:=Fx (AV.qan y) off m;have s:gG sx.B b off m=sx.B.set b (some (splice cs off (AV.clrs ((cs.drop off).take m)))):=by unfold gG;rw[Q]
  have q:=h.box [] b D hb (by rw[l];exact(by rw[<-n];exact h.held.nodup (.box b):(AV.owns cs ds).Nodup).sublist G) (fun a ha=> .inl (by rw[n];rw[l]at ha;exact G.subset ha));have H:sv.B.set b (some ds)=sv.B:=by
   apply iO;intro j
   by_cases hj:b=j
   ·subst hj
    have:=iH.1 P;rw[gR,this];simp
   ·rw[dh hj]
  rw[H]at q;rw[s];have w:aW (sx.B.set b (some (splice cs off (AV.clrs ((cs.drop off).take m))))) sv.B b=AV.owns (cs.take off) (ds.take off)++AV.owns (cs.drop (off+m)) (ds.drop (off+m)):=by
   unfold aW;rw[wB hb,P];exact l
  have d:(AV.owns cs ds).Nodup:=by rw[<-n];exact h.held.nodup (.box b)
  have g:AV.owns cs ds=AV.owns (cs.take off) (ds.take off)++(v.own u++AV.owns (cs.drop (off+m)) (ds.drop (off+m))):=by
   rw[AV.qbN (AV.qan y) off,AV.qbN (a:=cs.drop off) (c:=ds.drop off) (by simp[hlen]) m,W,kJ,kJ]
  refine q.put dst R J (fun _=>⟨?_,fun a ha=> ?_⟩) (fun i hi _=>hi) (fun _ hi=> .inl hi) c'
  ·rw[g]at d
   rw[co]at d;exact(co.1 d.2.1).1
  ·have K:a∈AV.owns cs ds:=by rw[g];simp[ha]
   have x:a∈ay sx.r sx.B sv.r sv.B (.box b):=by simp only[ay];rw[n];exact K
   obtain⟨q1,q2,q3⟩:=h.held.opn _ a x;refine⟨q1,q2,fun hf=>q3 (hf.le J),fun ℓ hℓ hm=> ?_⟩;cases ℓ with
   |reg t=>
    have:=h.held.apart (.box b) (.reg t) a x hm;simp at this
   |box j=>
    by_cases hj:j=b
    ·subst hj
     have I:a∈AV.owns (cs.take off) (ds.take off)++AV.owns (cs.drop (off+m)) (ds.drop (off+m)):=by
      have e:a∈aW (sx.B.set j (some (splice cs off (AV.clrs ((cs.drop off).take m))))) sv.B j:=hm;rw[w]at e;exact e
     rw[g]at d;rw[co]at d;obtain⟨_,S,n3⟩:=d;rw[co]at S;rcases bl.1 I with M|M
     ·exact n3 a M a (by simp[ha]) rfl
     ·exact S.2.2 a ha a M rfl
    ·have e:a∈aW (sx.B.set b (some (splice cs off (AV.clrs ((cs.drop off).take m))))) sv.B j:=hm
     rw[EV (fun he=>hj he.symm)]at e;have:=h.held.apart (.box b) (.box j) a x e;simp at this;exact hj this.symm
theorem uP{s:St}(dst:Option Nat)(v:AV):({(s.put dst v)with c:=s.c}:St)=s.put dst v:=by cases dst<;>rfl
theorem wN{s:St}(dst:Option Nat)(v:AV):(s.put dst v).c=s.c:=by cases dst<;>rfl
end
section
variable {A0:Ids} {T:List Nat} {F:Id->Prop} {p:Id} {sx sx':XS} {sv:St} {X:bM} {V:aZ} {lin:Nat->List Nat} {draw:Bool} {L0 i:Nat}
def dY(A0:Ids)(T:List Nat)(F:Id->Prop)(p:Id)(V:aZ)(draw:Bool)(L0 i:Nat)(o:VOper)(sv:St)(sx':XS):Prop:=
 ∃a,aP V p draw L0 i o sv=some a/\Rel A0 T F p (sv.c+i+1) sx' a/\a.c=sv.c
theorem dQ{o:VOper}{v:AV}{s:St}(h1:aP V p draw L0 i o sv=some (s.put o.dst v))(hc:s.c=sv.c){a:XS}(b:Rel A0 T F p (sv.c+i+1) a {(s.put o.dst v)with c:=sv.c}):dY A0 T F p V draw L0 i o sv a:=by
 refine⟨_,h1,?_,by rw[wN,hc]⟩;rw[<-hc]at b⊢
 rw[uP]at b;exact b
theorem Wv{dst:Option Nat}{x:VX}{gd:Option (Nat×Bool)}{af:List Nat}(h:Rel A0 T F p (sv.c+i) sx sv)(hx:aT X lin T draw L0 ⟨dst,.move x,gd,af⟩ sx=some sx'):dY A0 T F p V draw L0 i ⟨dst,.move x,gd,af⟩ sv sx':=by
 simp only[aT]at hx;obtain⟨a,h1,rfl⟩:=au.1 hx;obtain⟨v,b,d⟩:=h.get h1;refine dQ (sv:=sv) (s:=sv) (v:=v) (by simp only[aP,aA,b,bz]) rfl (h.give dst [x] d ?_ (fun i hi=>⟨x,by simp,by rw[eo h1 b];exact hi⟩) (bT _) _);rw[<-eo h1 b];exact h.qa4 x
theorem Rel.getBool(h:Rel A0 T F p (sv.c+i) sx sv){x:VX}{b:Bool}(hx:aY sx.r x=some (ar b)):x.get sv.r=some (ar b):=by
 obtain⟨v,h1,a⟩:=h.get hx;simp only[AV.fit,DV.fit]at a;obtain⟨y,rfl,rfl⟩:=a;exact h1
theorem Rel.getInt(h:Rel A0 T F p (sv.c+i) sx sv){x:VX}{k:IntKind}{n:Int}(hx:aY sx.r x=some (.d (.int k n))):x.get sv.r=some (.d (.int k n)):=by
 obtain⟨v,h1,a⟩:=h.get hx;simp only[AV.fit,DV.fit]at a;obtain⟨y,rfl,rfl⟩:=a;exact h1
theorem Rel.getPtr(h:Rel A0 T F p (sv.c+i) sx sv){x:VX}{b o:Nat}(hx:aY sx.r x=some (.ptr b o)):x.get sv.r=some (.ptr b o):=by
 obtain⟨v,h1,a⟩:=h.get hx;simp only[AV.fit]at a;subst a;exact h1
theorem QP{dst:Option Nat}{c x y:VX}{gd:Option (Nat×Bool)}{af:List Nat}(h:Rel A0 T F p (sv.c+i) sx sv)(hx:aT X lin T draw L0 ⟨dst,.pick c x y,gd,af⟩ sx=some sx'):dY A0 T F p V draw L0 i ⟨dst,.pick c x y,gd,af⟩ sv sx':=by
 simp only[aT]at hx;split at hx
 ·rename_i hc
  obtain⟨a,h1,rfl⟩:=au.1 hx;obtain⟨v,b,d⟩:=h.get h1;refine dQ (sv:=sv) (s:=sv) (v:=v) (by simp only[aP,aA,h.getBool hc,b,bz]) rfl (h.give dst [x] d ?_ (fun i hi=>⟨x,by simp,by rw[eo h1 b];exact hi⟩) (bT _) _);rw[<-eo h1 b];exact h.qa4 x
 ·rename_i hc
  obtain⟨a,h1,rfl⟩:=au.1 hx;obtain⟨v,b,d⟩:=h.get h1;refine dQ (sv:=sv) (s:=sv) (v:=v) (by simp only[aP,aA,h.getBool hc,b,bz]) rfl (h.give dst [y] d ?_ (fun i hi=>⟨y,by simp,by rw[eo h1 b];exact hi⟩) (bT _) _);rw[<-eo h1 b];exact h.qa4 y
 ·simp at hx
theorem EE{B:ah}{n:Nat}(h:ct B n=true):n<B.length:=by
 unfold ct at h;split at h
 ·rename_i h1;exact(aK.1 h1).1
 ·simp at h
theorem Yf{dst:Option Nat}{k:Nat}{z:List DV}{gd:Option (Nat×Bool)}{af:List Nat}(h:Rel A0 T F p (sv.c+i) sx sv)(hx:aT X lin T draw L0 ⟨dst,.alloc k z,gd,af⟩ sx=some sx'):dY A0 T F p V draw L0 i ⟨dst,.alloc k z,gd,af⟩ sv sx':=by
 simp only[aT]at hx;split at hx
 ·rename_i hc
  simp at hx;subst hx
  have b:AV.fits (z.map fun z=>AV.d z.cn1) (z.map .d):=by
   have:=AV.qip (DV.qiq z);rw[eN]at this;exact this
  have a:AV.owns (z.map fun z=>AV.d z.cn1) (z.map .d)=[]:=by
   have:z.map (fun z=>AV.d z.cn1)=(z.map DV.cn1).map .d:=by rw[eN];rfl
   rw[this,AV.qin,DV.qgx]
  have hb:=h.box [] (L0+k) b (EE hc.1) (by rw[a];simp) (by rw[a];simp);refine dQ (sv:=sv) (s:={sv with B:=sv.B.set (L0+k) (some (z.map .d))}) (v:= .ptr (L0+k) 0) (by simp only[aP];rw[ap ⟨by rw[h.boxes.free];exact hc.1,hc.2⟩]) rfl ?_;exact hb.put0 dst (by simp[AV.fit]) (by simp[AV.own]) (bT _) _
 ·simp at hx
theorem VB{dst:Option Nat}{k:Nat}{x:VX}{gd:Option (Nat×Bool)}{af:List Nat}(h:Rel A0 T F p (sv.c+i) sx sv)(hx:aT X lin T draw L0 ⟨dst,.box k x,gd,af⟩ sx=some sx'):dY A0 T F p V draw L0 i ⟨dst,.box k x,gd,af⟩ sv sx':=by
 simp only[aT]at hx;obtain⟨a,h1,hx⟩:=aw.1 hx;obtain⟨v,b,d⟩:=h.get h1;split at hx
 ·rename_i hc
  simp at hx;subst hx
  have g:=AV.qa2 d;have e:=AV.qdo d;have hb:=h.box [x] (L0+k) g (EE hc.1) (by rw[e,<-eo h1 b];exact h.qa4 x) (fun i hi=> .inr ⟨x,by simp,by rw[eo h1 b,<-e];exact hi⟩);refine dQ (sv:=sv) (s:={sv with B:=sv.B.set (L0+k) (some v.cells)}) (v:= .ptr (L0+k) 0) (by simp only[aP,b,aQ];rw[ap ⟨by rw[h.boxes.free];exact hc.1,by rw[AV.qbt g];exact hc.2.1,by rw[AV.qkp _ _ _ d];exact hc.2.2⟩]) rfl ?_;exact hb.put0 dst (by simp[AV.fit]) (by simp[AV.own]) (bT _) _
 ·simp at hx
theorem UX{dst:Option Nat}{z:List DV}{ps:List (Nat×Nat×VX)}{gd:Option (Nat×Bool)}{af:List Nat}(h:Rel A0 T F p (sv.c+i) sx sv)(b:cS T (ps.map fun q=>q.2.2)=true)(hx:aT X lin T draw L0 ⟨dst,.build z ps,gd,af⟩ sx=some sx'):dY A0 T F p V draw L0 i ⟨dst,.build z ps,gd,af⟩ sv sx':=by
 simp only[aT]at hx;obtain⟨cs,h1,rfl⟩:=au.1 hx;obtain⟨ds,e,m,j,l⟩:=EL h ps _ z cs b h1 (DV.qiq z) (by rw[DV.qgx];simp) (by rw[DV.qgx];simp);refine dQ (sv:=sv) (s:=sv) (v:= .d (.agg ds)) (by simp only[aP,aA,e,bz]) rfl (h.give dst _ (by simp only[AV.fit,DV.fit];exact⟨_,rfl,_,rfl,m⟩) (by simpa[AV.own,DV.own]using j) (fun i hi=> ?_) (bT _) _);rcases l i (by simpa[AV.own,DV.own]using hi)with a|⟨x,a,g⟩
 ·rw[DV.qgx]at a;simp at a
 ·exact⟨x,a,g⟩
theorem Zn(n:Nat)(z:DV):DV.fits (List.replicate n z.cn) (List.replicate n z):=by
 rw[DV.qbg];refine⟨by simp,fun i x y hx hy=> ?_⟩;rw[DW]at hx hy;split at hx<;>simp_all
 rw[<-hx,<-hy];exact DV.qso _
theorem BC(n:Nat)(z:DV)(l:List DV):DV.owns (List.replicate n z.cn) l=[]:=by
 induction n generalizing l with
 |zero=>simp[DV.owns]
 |succ n a=>cases l<;>simp[Cc,DV.owns,DV.qFk,a]
theorem nc(p:Id)(k:Nat)(A:Ids):∀a,Ids.add (k::p) A a=true->A a=true\/(Fut p 0 a/\¬Fut p (k+1) a):=by
 intro a ha;simp only[Ids.add,ci,ba]at ha;rcases ha with rfl|ha
 ·exact .inr ⟨(Fut.self p k).le (cE _),Fut.qkn (j5 _)⟩
 ·exact .inl ha
theorem SO{dst:Option Nat}{sz n:Nat}{z:DV}{ps:List (Nat×VX)}{gd:Option (Nat×Bool)}{af:List Nat}(h:Rel A0 T F p (sv.c+i) sx sv)(G:cS T (ps.map fun q=>q.2)=true)(hx:aT X lin T draw L0 ⟨dst,.buildSlice sz z n ps,gd,af⟩ sx=some sx'):dY A0 T F p V draw L0 i ⟨dst,.buildSlice sz z n ps,gd,af⟩ sv sx':=by
 simp only[aT]at hx;split at hx
 ·rename_i hc
  obtain⟨cs,h1,rfl⟩:=au.1 hx;obtain⟨ds,I,S,K,Q,R⟩:=EN h sz ps _ (List.replicate n z) cs G h1 (Zn n z) (fun e he=>by rw[(List.mem_replicate.1 he).2];exact hc.1) (by rw[BC];simp) (by rw[BC];simp);have g:(AV.d (.sl U cs)).fit (.d (.sl (.own ((sv.c+i)::p) sz) ds)):=by
   simp only[AV.fit,DV.fit];refine⟨_,rfl,_,_,rfl,S,.inr ⟨rfl,?_⟩⟩
   by_cases hn:cs.length=0
   ·exact .inl ⟨hn,.inr ⟨_,_,rfl⟩⟩
   ·exact .inr ⟨hn,_,_,rfl,K⟩
  have m:∀a,a∈DV.owns cs ds->∃x,x∈ps.map (fun q=>q.2)/\a∈b9 sx.r sv.r x:=fun a ha=>by
   rcases R a ha with u|u
   ·rw[BC]at u;simp at u
   ·exact u
  have w:∀a,a∈(AV.d (.sl U cs)).own (.d (.sl (.own ((sv.c+i)::p) sz) ds))->a=(sv.c+i)::p\/a∈DV.owns cs ds:=by
   intro a ha;simp only[AV.own,DV.own,bl]at ha;rcases ha with ha|ha
   ·split at ha<;>simp[Tag.ids]at ha
    exact .inl ha
   ·exact .inr ha
  have l:∀ℓ,(sv.c+i)::p∉ay sx.r sx.B sv.r sv.B ℓ:=fun ℓ hm=>(h.held.opn ℓ _ hm).2.2 (Fut.self p _)
  have C:((AV.d (.sl U cs)).own (.d (.sl (.own ((sv.c+i)::p) sz) ds))).Nodup:=by
   simp only[AV.own,DV.own];rw[co];refine⟨by split<;>simp[Tag.ids],Q,fun a ha b hb he=> ?_⟩;split at ha<;>simp[Tag.ids]at ha
   subst ha;subst he
   obtain⟨x,_,y⟩:=m _ hb;obtain⟨n',rfl,_,M⟩:=h.qdD y;exact l (.reg n') M
  refine dQ (sv:=sv) (s:={sv with A:=Ids.add ((sv.c+i)::p) sv.A}) (v:= .d (.sl (.own ((sv.c+i)::p) sz) ds)) (by simp only[aP,I,bz];rw[ap hc]) rfl ?_;cases hT:cu T dst with
  |false=>
   rw[G5 hT];exact h.put dst g (bT _) (fun D=>by rw[hT]at D;simp at D) (fun a ha _=>by simp[Ids.add,ha]) (nc p _ sv.A) _
  |true=>
   rw[FX hT];refine(h.drops _).put dst g (bT _) (fun _=>⟨C,fun a ha=> ?_⟩) (fun a ha _=>by simp[Ids.add,ha]) (nc p _ sv.A) _;rcases w a ha with rfl|ha
   ·refine⟨by simp[Ids.add],fun P=>(h.held.fr _ P).2 (Fut.self p _),Fut.qkn (j5 _),fun ℓ _ hm=> ?_⟩
    refine l ℓ ?_;cases ℓ with
    |reg t=>simp only[ay,iP]at hm⊢;split at hm<;>first|(simp at hm;done)|exact hm
    |box j=>exact hm
   ·obtain⟨x,u,y⟩:=m a ha
    obtain⟨O,J,N⟩:=h.qbU y;exact⟨by simp[Ids.add,O],J,fun H=>N (H.le (bT _)),fun ℓ _=>h.qcv u y ℓ⟩
 ·simp at hx
theorem Rj{dst:Option Nat}{k sz bytes:Nat}{z:DV}{x:VX}{gd:Option (Nat×Bool)}{af:List Nat}(h:Rel A0 T F p (sv.c+i) sx sv)(hx:aT X lin T draw L0 ⟨dst,.makeSlice k sz bytes z x,gd,af⟩ sx=some sx'):dY A0 T F p V draw L0 i ⟨dst,.makeSlice k sz bytes z x,gd,af⟩ sv sx':=by
 simp only[aT]at hx;split at hx
 ·rename_i g n h1
  split at hx
  ·rename_i hc
   simp at hx;subst hx
   have e:DV.fits ((List.replicate n.toNat z.cn).flatMap DV.cells) ((List.replicate n.toNat z).flatMap DV.cells):=by
    generalize n.toNat=m
    induction m with
    |zero=>simp[DV.fits]
    |succ m b=>simp only[Cc,ei];exact DV.qaU (DV.qa2 (DV.qso z)) b
   have a:DV.owns ((List.replicate n.toNat z.cn).flatMap DV.cells) ((List.replicate n.toNat z).flatMap DV.cells)=[]:=by
    generalize n.toNat=m
    induction m with
    |zero=>simp[DV.owns]
    |succ m b=>simp only[Cc,ei];rw[DV.qaR (DV.qan (DV.qa2 (DV.qso z))),DV.qdo (DV.qso z),DV.qFk,b];rfl
   have hb:=h.box [] (L0+k) (AV.qip e) (EE hc.2.1) (by rw[AV.qin,a];simp) (by rw[AV.qin,a];simp);refine dQ (sv:=sv) (s:={sv with B:=sv.B.set (L0+k) (some (((List.replicate n.toNat z).flatMap DV.cells).map .d))}) (v:= .bsl ((sv.c+i)::p) (isAgg z) (L0+k) sz n.toNat) (by simp only[aP,h.getInt h1];rw[ap ⟨hc.1,by rw[h.boxes.free];exact hc.2.1,hc.2.2⟩];cases z<;>rfl) rfl ?_;exact hb.put0 dst (by simp[AV.fit]) (by simp[AV.own]) (bT _) _
  ·simp at hx
 ·simp at hx
theorem DV.qsm:∀(xs ys:List DV) (n:Nat),(DV.owns (xs.take n) (ys.take n)).Sublist (DV.owns xs ys)
 | [],ys,n=>by simp[DV.owns]
 |x::xs,[],n=>by simp[DV.owns]
 |x::xs,y::ys,0=>by simp[DV.owns]
 |x::xs,y::ys,n+1=>by
  simp only[sb,DV.owns];exact gw (bX _) (DV.qsm xs ys n)
theorem qN3{agg:Bool}{sz:Nat}{cs ds:List DV}{v u:DV}(h:cut agg sz cs=some v)(a:cut agg sz ds=some u):(v.own u).Sublist (DV.owns cs ds):=by
 unfold cut at h a;cases agg with
 |true=>
  simp only[if_true]at h a;split at h
  ·split at a
   ·simp at h a;subst h;subst a
    simp only[DV.own];exact DV.qsm cs ds sz
   ·simp at a
  ·simp at h
 |false=>
  simp only[bI,if_false]at h a;exact DV.qcw h a
theorem M9{dst:Option Nat}{agg:Bool}{sz:Nat}{x:VX}{gd:Option (Nat×Bool)}{af:List Nat}(h:Rel A0 T F p (sv.c+i) sx sv)(hx:aT X lin T draw L0 ⟨dst,.load agg sz x,gd,af⟩ sx=some sx'):dY A0 T F p V draw L0 i ⟨dst,.load agg sz x,gd,af⟩ sv sx':=by
 simp only[aT]at hx;split at hx
 ·rename_i cs h1
  obtain⟨v,g,rfl⟩:=au.1 hx;obtain⟨u,j,e⟩:=h.get h1;simp only[AV.fit]at e;obtain⟨ds,rfl,q⟩:=e;obtain⟨w,n,r⟩:=FV q g;have m:=qN3 g n;have l:=eo h1 j;simp only[AV.own]at l;refine dQ (sv:=sv) (s:=sv) (v:= .d w) (by simp only[aP,j,n,bz]) rfl (h.give dst [x] (by simp only[AV.fit];exact⟨_,rfl,r⟩) ?_ (fun i hi=>⟨x,by simp,by rw[l];exact m.subset (by simpa only[AV.own]using hi)⟩) (bT _) _);have a:=h.qa4 x;rw[l]at a;simp only[AV.own];exact a.sublist m
 ·rename_i b off h1
  split at hx
  ·simp at hx
  ·rename_i hd
   obtain⟨v,g,rfl⟩:=au.1 hx;obtain⟨u,j,e⟩:=h.takeBox dst g (bT _) sv.c;exact dQ (sv:=sv) (s:=sv) (v:=u) (by simp only[aP,h.getPtr h1,j,bz];rw[ak hd]) rfl e
 ·simp at hx
theorem KY{dst:Option Nat}{init:Bool}{sz:Nat}{a x:VX}{gd:Option (Nat×Bool)}{af:List Nat}(h:Rel A0 T F p (sv.c+i) sx sv)(hx:aT X lin T draw L0 ⟨dst,.store init sz a x,gd,af⟩ sx=some sx'):dY A0 T F p V draw L0 i ⟨dst,.store init sz a x,gd,af⟩ sv sx':=by
 simp only[aT]at hx;split at hx
 ·rename_i b off v h1 G
  split at hx
  ·simp at hx
  ·rename_i hd
   obtain⟨B',J,rfl⟩:=au.1 hx;unfold fZ at J;obtain⟨cs,C,y⟩:=aw.1 J;split at y
   ·rename_i hc
    simp at y;subst y
    obtain⟨u,I,t⟩:=h.get G;obtain⟨ds,H,w⟩:=h.boxes.get C;have j:=AV.qa2 t;have hb:b<sx.B.length:=by
     rcases dZ b sx.B.length with hh|hh
     ·exact hh
     ·have:=iH.1 C;rw[f8 hh]at this;simp at this
    have e:aW sx.B sv.B b=AV.owns cs ds:=by unfold aW;rw[C,H]
    have g:AV.owns v.cells u.cells=b9 sx.r sv.r x:=by rw[AV.qdo t,eo G I]
    have l:=Fx (AV.qan w) off v.cells.length;have D:=Ht w j off;have m:=h.box [x] b (H5 w j off) hb (by
     rw[D];refine Ez l (by rw[<-e];exact h.held.nodup (.box b)) (by rw[g];exact h.qa4 x) (fun q d hm=> ?_);rw[g]at d;obtain⟨n,rfl,hn,z⟩:=h.qdD d;have:=h.held.apart (.reg n) (.box b) q z (by simp only[ay];rw[e];exact hm);simp at this) (fun q d=>by
     rw[D]at d;simp only[bl]at d;rcases d with(d|d)|d
     ·exact .inl (by rw[e];exact l.subset (by simp[d]))
     ·exact .inr ⟨x,by simp,by rw[<-g];exact d⟩
     ·exact .inl (by rw[e];exact l.subset (by simp[d])))
    refine dQ (sv:=sv) (s:={sv with B:=sv.B.set b (some (splice ds off u.cells))}) (v:= .und) (by
     simp only[aP,h.getPtr h1,I];rw[ak hd];simp only[je,H,aQ];rw[ap ⟨by rw[AV.qby t];exact hc.1,by rw[<-AV.qan w];exact hc.2.1,by rw[AV.qbt j];exact hc.2.2.1,by rw[AV.qkp _ _ _ t];exact hc.2.2.2⟩];rfl) rfl ?_
    exact m.put0 dst (by simp[AV.fit]) (by simp[AV.own]) (bT _) _
   ·simp at y
 ·simp at hx
theorem YU{dst:Option Nat}{sz:Nat}{a x:VX}{av:List Nat}{gd:Option (Nat×Bool)}{af:List Nat}(h:Rel A0 T F p (sv.c+i) sx sv)(hx:aT X lin T draw L0 ⟨dst,.storeN sz a x av,gd,af⟩ sx=some sx'):dY A0 T F p V draw L0 i ⟨dst,.storeN sz a x av,gd,af⟩ sv sx':=by
 simp only[aT]at hx;split at hx
 ·rename_i b off v h1 u
  split at hx
  ·simp at hx
  ·rename_i hc
   simp only[ci,not_or,fi,Ah]at hc;have g:aT X lin T draw L0 ⟨dst,.store false sz a x,gd,af⟩ sx=some sx':=by
    simp only[aT,h1,u];rw[ak hc.1];exact hx
   obtain⟨j,d,k2⟩:=KY (X:=X) (V:=V) h g;refine⟨j,?_,k2⟩;have e:et sv.r b av=true:=by
    unfold et;rw[bu];intro t q;have:=bu.1 hc.2 t q;split at this
    ·rename_i D l s
     obtain⟨y,C,m⟩:=h.regs t _ s;simp only[AV.fit]at m;subst m
     rw[C];exact this
    ·simp at this
   simp only[aP,h.getPtr h1]at d⊢
   split at d
   ·rename_i G n w hb hw
    simp only[aB,AV.ptr.injEq]at hb;obtain⟨rfl,rfl⟩:=hb;split at d
    ·simp at d
    ·rename_i z
     rw[ak (by simp only[ci,not_or];exact⟨z,by rw[e];simp⟩)];exact d
   ·simp at d
 ·simp at hx
end
section
variable {A0:Ids} {T:List Nat} {F:Id->Prop} {p:Id} {sx sx':XS} {sv:St} {X:bM} {V:aZ} {lin:Nat->List Nat} {draw:Bool} {L0 i:Nat}
theorem K6{sz:Nat}{xs ys:List DV}(h:DV.fits xs ys)(hx:∀e:DV,e∈xs->e.cells.length=sz/\e.cells.all DV.isCell=true):∀e:DV,e∈ys->e.cells.length=sz/\e.cells.all DV.isCell=true:=by
 intro e he;obtain⟨j,hj⟩:=c9.1 he;obtain⟨h1,d⟩:=(DV.qbg _ _).1 h;have a:j<xs.length:=by rw[h1];exact(aK.1 hj).1
 have b:=d j xs[j] e (by simp[a]) hj;obtain⟨c,g⟩:=hx _ (il a);exact⟨by rw[DV.qby b];exact c,by rw[DV.qbt (DV.qa2 b)];exact g⟩
theorem J2{sz:Nat}{xs ys:List DV}(h:DV.fits xs ys)(hx:∀e:DV,e∈xs->e.cells.length=sz):∀e:DV,e∈ys->e.cells.length=sz:=by
 intro e he;obtain⟨j,hj⟩:=c9.1 he;obtain⟨h1,b⟩:=(DV.qbg _ _).1 h;have a:j<xs.length:=by rw[h1];exact(aK.1 hj).1
 have c:=b j xs[j] e (by simp[a]) hj;rw[DV.qby c];exact hx _ (il a)
theorem YR{dst:Option Nat}{sz bytes:Nat}{x y:VX}{gd:Option (Nat×Bool)}{af:List Nat}(h:Rel A0 T F p (sv.c+i) sx sv)(hl:cS T [x,y]=true)(hx:aT X lin T draw L0 ⟨dst,.append sz bytes x y,gd,af⟩ sx=some sx'):dY A0 T F p V draw L0 i ⟨dst,.append sz bytes x y,gd,af⟩ sv sx':=by
 simp only[aT]at hx;split at hx
 ·rename_i v w h1 h2
  obtain⟨u,G,rfl⟩:=au.1 hx;obtain⟨v',h4,h5⟩:=h.get h1;obtain⟨w',h6,h7⟩:=h.get h2;have ox:=eo h1 h4;have oy:=eo h2 h6;simp only[AV.fit]at h5 h7;obtain⟨v',rfl,h5⟩:=h5;obtain⟨w',rfl,h7⟩:=h7;have x1:∀L:List VX,x∈(if cu T dst then [x,y]else [x]):=fun _=>by split<;>simp
  have D:∀a,a∈b9 sx.r sv.r x->a∉b9 sx.r sv.r y:=fun a ha=>h.qd4 (fun n hx hn he=>by
   subst hx;subst he
   exact(lM hl).1 n rfl hn (by simp)) ha
  unfold cG at G;split at G
  ·rename_i g xs gy ys
   simp only[DV.fit]at h5 h7;obtain⟨g',l,rfl,N,htx⟩:=h5;obtain⟨gy',m,rfl,b1,hty⟩:=h7;have R:=DV.qan N;have O:=DV.qan b1;split at G
   ·rename_i x2
    have hall:∀e:DV,e∈ys->e.cells.length=sz/\e.cells.all DV.isCell=true:=by
     intro e he;have:=bu.1 x2 e he;simp only[ba]at this;exact this
    have M:=K6 b1 hall;have J:m.all (fun e=>decide (e.cells.length=sz/\e.cells.all DV.isCell=true))=true:=by
     rw[bu];intro e he;simp only[ba];exact M e he
    split at G
    ·rename_i W
     simp at W;subst W
     have:m=[]:=by rw[<-List.length_eq_zero_iff];simpa using O.symm
     subst this;simp at G;subst G
     refine dQ (sv:=sv) (s:=sv) (v:= .d (.sl g' l)) (by simp only[aP,h4,h6];simp[eO]) rfl ?_;have hft:(AV.d (.sl g xs)).fit (.d (.sl g' l)):=by simp only[AV.fit,DV.fit];exact⟨_,rfl,_,_,rfl,N,htx⟩
     refine(h.drops _).put dst hft (bT _) (fun _=>⟨by rw[<-ox];exact h.qa4 x,fun a ha=> ?_⟩) (fun a ha _=>ha) (fun _ hi=> .inl hi) _;rw[<-ox]at ha;obtain⟨q1,q2,q3⟩:=h.qbU ha;exact⟨q1,q2,fun hf=>q3 (hf.le (bT _)),fun ℓ _=>h.qcv (x1 []) ha ℓ⟩
    ·rename_i hne0
     have a2:ys≠[]:=by simpa using hne0
     have hne':m≠[]:=by intro he;subst he;simp at O;exact a2 O
     have H:m.isEmpty=false:=by cases m<;>simp_all
     split at G
     ·rename_i hc
      obtain⟨P,rfl,S⟩:=hc;simp at G;subst G
      have a1:∀e:DV,e∈xs->e.cells.length=sz:=by
       intro e he;have:=bu.1 S e he;simpa using this
      have q:(l.length+m.length)*bytes<=140737488355328:=by rw[<-R,<-O];exact P
      have hel:∀e:DV,e∈l++m->e.cells.length=sz:=by
       intro e he;rcases bl.1 he with he|he
       ·exact J2 N a1 e he
       ·exact(M e he).1
      have hfit:(AV.d (.sl U (xs++ys))).fit (.d (.sl (.own ((sv.c+i)::p) sz) (l++m))):=by
       simp only[AV.fit,DV.fit];refine⟨_,rfl,_,_,rfl,DV.qaU N b1,.inr ⟨rfl,.inr ⟨by simp[a2],_,_,rfl,hel⟩⟩⟩
      have hown:(AV.d (.sl U (xs++ys))).own (.d (.sl (.own ((sv.c+i)::p) sz) (l++m)))=((sv.c+i)::p)::(DV.owns xs l++DV.owns ys m):=by
       simp only[AV.own,DV.own];rw[ap ⟨trivial,by simp[a2]⟩,DV.qaR R];simp[Tag.ids]
      have Q:∀a,a∈DV.owns xs l->a∈b9 sx.r sv.r x:=fun a ha=>by rw[ox];simp[AV.own,DV.own,ha]
      have I:∀a,a∈DV.owns ys m->a∈b9 sx.r sv.r y:=fun a ha=>by rw[oy];simp[AV.own,DV.own,ha]
      have Y:∀ℓ,(sv.c+i)::p∉ay sx.r sx.B sv.r sv.B ℓ:=fun ℓ hm=>(h.held.opn ℓ _ hm).2.2 (Fut.self p _)
      have K:∀z,(sv.c+i)::p∉b9 sx.r sv.r z:=fun z hm=>by
       obtain⟨n,rfl,_,h8⟩:=h.qdD hm;exact Y (.reg n) h8
      have hnd:(((sv.c+i)::p)::(DV.owns xs l++DV.owns ys m)).Nodup:=by
       rw[iZ,co];refine⟨fun hm=> ?_,(h.qa4 x).sublist (by rw[ox];simp only[AV.own,DV.own];exact gi _ _),(h.qa4 y).sublist (by rw[oy];simp only[AV.own,DV.own];exact gi _ _),fun a ha b hb he=> ?_⟩
       ·rcases bl.1 hm with hm|hm
        ·exact K x (Q _ hm)
        ·exact K y (I _ hm)
       ·subst he;exact D a (Q a ha) (I a hb)
      have hV:∃A',eO sv ((sv.c+i)::p) sz bytes (.sl g' l) (.sl gy' m)=some (.d (.sl (.own ((sv.c+i)::p) sz) (l++m)),{sv with A:=A'})/\A' ((sv.c+i)::p)=true/\
       (∀a,sv.A a=true->(a∉b9 sx.r sv.r x\/a∈DV.owns xs l)->A' a=true)/\∀a,A' a=true->sv.A a=true\/(Fut p 0 a/\¬Fut p (sv.c+i+1) a):=by
       rcases htx with h8|⟨_,h8⟩
       ·exact absurd h8 (by decide)
       rcases h8 with⟨h9,h10⟩|⟨h9,a0,sz',rfl,h11⟩
       ·have hx0:l=[]:=by rw[<-List.length_eq_zero_iff];omega
        subst hx0;refine⟨Ids.add ((sv.c+i)::p) sv.A,?_,by simp[Ids.add],fun a ha _=>by simp[Ids.add,ha],nc p _ sv.A⟩;have hb0:(([]:List DV).length+m.length)*bytes<=140737488355328:=q;unfold eO;simp only;rw[ap J,H];simp only[bI,if_false];rw[ap hb0];rcases h10 with rfl|⟨a0,s0,rfl⟩<;>simp
       ·have hxne:l≠[]:=by intro he;subst he;simp at R;exact h9 (by rw[R];rfl)
        have b2:l.isEmpty=false:=by cases l<;>simp_all
        have hs:sz'=sz:=by
         obtain⟨e,he⟩:=md l hxne;rw[<-h11 e he,hel e (by simp[he])]
        have Z:a0∈b9 sx.r sv.r x:=by rw[ox];simp only[AV.own,DV.own];rw[ap ⟨trivial,h9⟩];simp[Tag.ids]
        obtain⟨ha0,_,_⟩:=h.qbU Z;refine⟨Ids.add ((sv.c+i)::p) (Ids.del a0 sv.A),?_,by simp[Ids.add],fun a ha C=> ?_,fun a ha=>(nc p _ _ a ha).imp_left fun h=>by simp[Ids.del]at h;exact h.2⟩
        ·unfold eO
         simp only;rw[ap J,H];simp only[bI,if_false];rw[ap q,b2];simp only[bI,if_false];rw[ap ⟨hs,ha0⟩]
        ·have hne2:a≠a0:=by
          rintro rfl
          rcases C with C|C
          ·exact C Z
          ·have:=h.qa4 x
           rw[ox]at this;simp only[AV.own,DV.own]at this;rw[ap ⟨trivial,h9⟩]at this;simp only[Tag.ids,Ag,iZ]at this;exact this.1 C
         simp[Ids.add,Ids.del,hne2,ha]
      obtain⟨A',hV1,hV2,x3,hV4⟩:=hV;refine dQ (sv:=sv) (s:={sv with A:=A'}) (v:= .d (.sl (.own ((sv.c+i)::p) sz) (l++m))) (by simp only[aP,h4,h6,hV1,bz]) rfl ?_;refine(h.drops _).put dst hfit (bT _) (fun hT=> ?_) (fun a ha C=>x3 a ha (.inl ?_)) hV4 _
      ·rw[hown]
       refine⟨hnd,fun a ha=> ?_⟩;simp only[hT,if_true];rcases br.1 ha with rfl|ha
       ·refine⟨hV2,fun hF=>(h.held.fr _ hF).2 (Fut.self p _),Fut.qkn (j5 _),fun ℓ _ hm=> ?_⟩
        refine Y ℓ ?_;cases ℓ with
        |reg t=>simp only[ay,iP]at hm⊢;split at hm<;>first|(simp at hm;done)|exact hm
        |box j=>exact hm
       ·rcases bl.1 ha with ha|ha
        ·obtain⟨q1,q2,q3⟩:=h.qbU (Q a ha)
         exact⟨x3 a q1 (.inr ha),q2,fun hf=>q3 (hf.le (bT _)),fun ℓ _=>h.qcv (by simp) (Q a ha) ℓ⟩
        ·obtain⟨q1,q2,q3⟩:=h.qbU (I a ha)
         exact⟨x3 a q1 (.inl fun hm=>D a hm (I a ha)),q2,fun hf=>q3 (hf.le (bT _)),fun ℓ _=>h.qcv (by simp) (I a ha) ℓ⟩
      ·intro hm
       rcases C with hF|⟨ℓ,hℓ⟩
       ·exact(h.qbU hm).2.1 hF
       ·exact h.qcv (x1 []) hm ℓ hℓ
     ·simp at G
   ·simp at G
  ·simp at G
 ·simp at hx
theorem O6{dst:Option Nat}{sz bytes:Nat}{x yy ix y:VX}{t9:Nat}{gd:Option (Nat×Bool)}{af:List Nat}(h:Rel A0 T F p (sv.c+i) sx sv)(hl:cS T [x,y]=true)(hx:aT X lin T draw L0 ⟨dst,.append1 sz bytes x yy ix y t9,gd,af⟩ sx=some sx'):dY A0 T F p V draw L0 i ⟨dst,.append1 sz bytes x yy ix y t9,gd,af⟩ sv sx':=by
 simp only[aT]at hx;split at hx
 ·rename_i g xs gz z kk n w h1 hy1 hi1 h2
  split at hx
  ·rename_i hc0
   obtain⟨hd0,hn0,hz1,hz2,hw1,hw2,ht9⟩:=hc0;obtain⟨u,P,rfl⟩:=au.1 hx;obtain⟨v',h4,h5⟩:=h.get h1;obtain⟨w',h6,h7⟩:=h.get h2;obtain⟨z0,hy2,J⟩:=h.get hy1;have hi2:=h.getInt hi1;have ox:=eo h1 h4;have oy:=eo h2 h6;simp only[AV.fit]at h5 h7 J;obtain⟨v',rfl,h5⟩:=h5;obtain⟨w',rfl,h7⟩:=h7;obtain⟨z1,rfl,J⟩:=J;simp only[DV.fit,DV.fits]at J;obtain⟨gz',zs,rfl,⟨z',zs',rfl,hzf,rfl⟩,_⟩:=J;have hzl:z'.cells.length=sz:=by rw[DV.qby hzf];exact hz1
   have hzc:z'.cells.all DV.isCell=true:=by rw[DV.qbt (DV.qa2 hzf)];exact hz2
   have hwl:w'.cells.length=sz:=by rw[DV.qby h7];exact hw1
   have hwc:w'.cells.all DV.isCell=true:=by rw[DV.qbt (DV.qa2 h7)];exact hw2
   have ht9v:=h.no t9 ht9;have hxin:∀L:List VX,x∈(if cu T dst then [x,y]else [x]):=fun _=>by split<;>simp
   have D:∀a,a∈b9 sx.r sv.r x->a∉b9 sx.r sv.r y:=fun a ha=>h.qd4 (fun n hx hn he=>by
    subst hx;subst he
    exact(lM hl).1 n rfl hn (by simp)) ha
   simp only[DV.fit]at h5;obtain⟨g',m,rfl,x3,htx⟩:=h5;have R:DV.fits [w] [w']:=by simp only[DV.fits];exact⟨_,_,rfl,h7,rfl⟩
   have hyx:∀a,a∈DV.owns [w] [w']->a∈b9 sx.r sv.r y:=fun a ha=>by rw[oy];simpa[AV.own,DV.owns]using ha
   have hyn:(DV.owns [w] [w']).Nodup:=by have:=h.qa4 y;rw[oy]at this;simpa[AV.own,DV.owns]using this
   obtain⟨ys,x2⟩:∃ys,ys=[w]:=⟨_,rfl⟩;obtain⟨l,K⟩:∃l,l=[w']:=⟨_,rfl⟩;rw[<-x2,<-K]at R hyx hyn;rw[<-x2]at P;unfold cG at P;simp only at P;have O:=DV.qan x3;have hly:=DV.qan R;split at P
   ·rename_i a1
    have hall:∀e:DV,e∈ys->e.cells.length=sz/\e.cells.all DV.isCell=true:=by
     intro e he;have:=bu.1 a1 e he;simp only[ba]at this;exact this
    have N:=K6 R hall;have I:l.all (fun e=>decide (e.cells.length=sz/\e.cells.all DV.isCell=true))=true:=by
     rw[bu];intro e he;simp only[ba];exact N e he
    split at P
    ·rename_i Y
     rw[x2]at Y;simp at Y
    ·rename_i hne0
     have b2:ys≠[]:=by simpa using hne0
     have hne':l≠[]:=by intro he;subst he;simp at hly;exact b2 hly
     have G:l.isEmpty=false:=by rw[K];rfl
     split at P
     ·rename_i hc
      obtain⟨Q,rfl,W⟩:=hc;simp at P;subst P
      have b1:∀e:DV,e∈xs->e.cells.length=sz:=by
       intro e he;have:=bu.1 W e he;simpa using this
      have q:(m.length+l.length)*bytes<=140737488355328:=by rw[<-O,<-hly];exact Q
      have hel:∀e:DV,e∈m++l->e.cells.length=sz:=by
       intro e he;rcases bl.1 he with he|he
       ·exact J2 x3 b1 e he
       ·exact(N e he).1
      have hfit:(AV.d (.sl U (xs++ys))).fit (.d (.sl (.own ((sv.c+i)::p) sz) (m++l))):=by
       simp only[AV.fit,DV.fit];refine⟨_,rfl,_,_,rfl,DV.qaU x3 R,.inr ⟨rfl,.inr ⟨by simp[b2],_,_,rfl,hel⟩⟩⟩
      have hown:(AV.d (.sl U (xs++ys))).own (.d (.sl (.own ((sv.c+i)::p) sz) (m++l)))=((sv.c+i)::p)::(DV.owns xs m++DV.owns ys l):=by
       simp only[AV.own,DV.own];rw[ap ⟨trivial,by simp[b2]⟩,DV.qaR O];simp[Tag.ids]
      have S:∀a,a∈DV.owns xs m->a∈b9 sx.r sv.r x:=fun a ha=>by rw[ox];simp[AV.own,DV.own,ha]
      have H:∀a,a∈DV.owns ys l->a∈b9 sx.r sv.r y:=hyx;have Z:∀ℓ,(sv.c+i)::p∉ay sx.r sx.B sv.r sv.B ℓ:=fun ℓ hm=>(h.held.opn ℓ _ hm).2.2 (Fut.self p _)
      have M:∀z,(sv.c+i)::p∉b9 sx.r sv.r z:=fun z hm=>by
       obtain⟨n,rfl,_,h8⟩:=h.qdD hm;exact Z (.reg n) h8
      have hnd:(((sv.c+i)::p)::(DV.owns xs m++DV.owns ys l)).Nodup:=by
       rw[iZ,co];refine⟨fun hm=> ?_,(h.qa4 x).sublist (by rw[ox];simp only[AV.own,DV.own];exact gi _ _),hyn,fun a ha b hb he=> ?_⟩
       ·rcases bl.1 hm with hm|hm
        ·exact M x (S _ hm)
        ·exact M y (H _ hm)
       ·subst he;exact D a (S a ha) (H a hb)
      have hV:∃A',eO sv ((sv.c+i)::p) sz bytes (.sl g' m) (.sl gz' l)=some (.d (.sl (.own ((sv.c+i)::p) sz) (m++l)),{sv with A:=A'})/\A' ((sv.c+i)::p)=true/\
       (∀a,sv.A a=true->(a∉b9 sx.r sv.r x\/a∈DV.owns xs m)->A' a=true)/\∀a,A' a=true->sv.A a=true\/(Fut p 0 a/\¬Fut p (sv.c+i+1) a):=by
       rcases htx with h8|⟨_,h8⟩
       ·exact absurd h8 (by decide)
       rcases h8 with⟨h9,h10⟩|⟨h9,a0,sz',rfl,h11⟩
       ·have hx0:m=[]:=by rw[<-List.length_eq_zero_iff];omega
        subst hx0;refine⟨Ids.add ((sv.c+i)::p) sv.A,?_,by simp[Ids.add],fun a ha _=>by simp[Ids.add,ha],nc p _ sv.A⟩;have hb0:(([]:List DV).length+l.length)*bytes<=140737488355328:=q;unfold eO;simp only;rw[ap I,G];simp only[bI,if_false];rw[ap hb0];rcases h10 with rfl|⟨a0,s0,rfl⟩<;>simp
       ·have hxne:m≠[]:=by intro he;subst he;simp at O;exact h9 (by rw[O];rfl)
        have hxemp:m.isEmpty=false:=by cases m<;>simp_all
        have hs:sz'=sz:=by
         obtain⟨e,he⟩:=md m hxne;rw[<-h11 e he,hel e (by simp[he])]
        have x1:a0∈b9 sx.r sv.r x:=by rw[ox];simp only[AV.own,DV.own];rw[ap ⟨trivial,h9⟩];simp[Tag.ids]
        obtain⟨ha0,_,_⟩:=h.qbU x1;refine⟨Ids.add ((sv.c+i)::p) (Ids.del a0 sv.A),?_,by simp[Ids.add],fun a ha C=> ?_,fun a ha=>(nc p _ _ a ha).imp_left fun h=>by simp[Ids.del]at h;exact h.2⟩
        ·unfold eO
         simp only;rw[ap I,G];simp only[bI,if_false];rw[ap q,hxemp];simp only[bI,if_false];rw[ap ⟨hs,ha0⟩]
        ·have hne2:a≠a0:=by
          rintro rfl
          rcases C with C|C
          ·exact C x1
          ·have:=h.qa4 x
           rw[ox]at this;simp only[AV.own,DV.own]at this;rw[ap ⟨trivial,h9⟩]at this;simp only[Tag.ids,Ag,iZ]at this;exact this.1 C
         simp[Ids.add,Ids.del,hne2,ha]
      obtain⟨A',hV1,hV2,a2,hV4⟩:=hV;refine dQ (sv:=sv) (s:={sv with A:=A'}) (v:= .d (.sl (.own ((sv.c+i)::p) sz) (m++l))) (by simp only[aP,h4,hy2,hi2,h6];rw[ap ⟨hd0,by rw[hn0,O],hzl,hzc,hwl,hwc,ht9v⟩,<-K,hV1];rfl) rfl ?_;refine(h.drops _).put dst hfit (bT _) (fun hT=> ?_) (fun a ha C=>a2 a ha (.inl ?_)) hV4 _
      ·rw[hown]
       refine⟨hnd,fun a ha=> ?_⟩;simp only[hT,if_true];rcases br.1 ha with rfl|ha
       ·refine⟨hV2,fun hF=>(h.held.fr _ hF).2 (Fut.self p _),Fut.qkn (j5 _),fun ℓ _ hm=> ?_⟩
        refine Z ℓ ?_;cases ℓ with
        |reg t=>simp only[ay,iP]at hm⊢;split at hm<;>first|(simp at hm;done)|exact hm
        |box j=>exact hm
       ·rcases bl.1 ha with ha|ha
        ·obtain⟨q1,q2,q3⟩:=h.qbU (S a ha)
         exact⟨a2 a q1 (.inr ha),q2,fun hf=>q3 (hf.le (bT _)),fun ℓ _=>h.qcv (by simp) (S a ha) ℓ⟩
        ·obtain⟨q1,q2,q3⟩:=h.qbU (H a ha)
         exact⟨a2 a q1 (.inl fun hm=>D a hm (H a ha)),q2,fun hf=>q3 (hf.le (bT _)),fun ℓ _=>h.qcv (by simp) (H a ha) ℓ⟩
      ·intro hm
       rcases C with hF|⟨ℓ,hℓ⟩
       ·exact(h.qbU hm).2.1 hF
       ·exact h.qcv (hxin []) hm ℓ hℓ
     ·simp at P
   ·simp at P
  ·simp at hx
 ·simp at hx
theorem WJ{dst:Option Nat}{x:VX}{k:Nat}{gd:Option (Nat×Bool)}{af:List Nat}(h:Rel A0 T F p (sv.c+i) sx sv)(hx:aT X lin T draw L0 ⟨dst,.extract x k,gd,af⟩ sx=some sx'):dY A0 T F p V draw L0 i ⟨dst,.extract x k,gd,af⟩ sv sx':=by
 simp only[aT]at hx;split at hx
 ·rename_i vs h1
  obtain⟨v,K,rfl⟩:=au.1 hx;obtain⟨w,N,P⟩:=h.get h1;simp only[AV.fit]at P;obtain⟨us,rfl,M,O⟩:=P;obtain⟨u,S,h8⟩:=AV.qb3 M K;refine dQ (sv:=sv) (s:=sv) (v:=u) (by simp only[aP,aA,N,S,bz]) rfl ?_;exact h.put0 dst (AV.qcK _ _ h8) (AV.qbC _ _) (bT _) _
 ·rename_i vs h1
  obtain⟨v,K,rfl⟩:=au.1 hx;obtain⟨w,N,P⟩:=h.get h1;have l:=eo h1 N;simp only[AV.fit,DV.fit]at P;obtain⟨_,rfl,us,rfl,M⟩:=P;obtain⟨u,O,S⟩:=DV.qb3 M K;have z:(AV.d v).fit (.d u):=by simp only[AV.fit];exact⟨_,rfl,S⟩
  refine dQ (sv:=sv) (s:=sv) (v:= .d u) (by simp only[aP,aA,N,O,bz]) rfl ?_;have Z:k<vs.length:=(aK.1 K).1;have x1:k<us.length:=(aK.1 O).1;have e:(v.own u).Sublist (DV.owns vs us):=DV.qcw K O;simp only[AV.own,DV.own]at l;cases hT:cu T dst with
  |false=>
   have key:Rel A0 T F p (sv.c+i+1) (aS T sx dst (.d v)) {(sv.put dst (.d u))with c:=sv.c}:=h.put dst z (bT _) (fun h'=>by rw[hT]at h';simp at h') (fun a ha _=>ha) (fun _ hi=> .inl hi) _;cases x with
   |c q=>exact key
   |t n=>simp only[Bool.false_and,bI,if_false];exact key
  |true=>
   have none:(v.own u=[])->Rel A0 T F p (sv.c+i+1) (aS T sx dst (.d v)) {(sv.put dst (.d u))with c:=sv.c}:=fun h0=>h.put0 dst z (by simpa[AV.own]using h0) (bT _) _
   cases x with
   |c q=>
    refine none ?_;rw[Ec]at l;rw[<-l]at e;exact od.1 e
   |t n=>
    cases hn:T.contains n with
    |false=>
     simp only[hn,Bool.and_false,bI,if_false];refine none ?_;rw[nr,h.nl n hn]at l;rw[<-l]at e;exact od.1 e
    |true=>
     simp only[hn,uS,if_true];rw[nr]at l;have m:us.set k u=us:=by
      apply iO;intro j
      by_cases hj:k=j
      ·subst hj;rw[gR,O];simp
      ·rw[dh hj]
     have Q:=wH M (i:=k) (DV.qcK _ _ S);have H:=lZ M Z v.clr u;have I:=lZ M Z v u;have G:vs.set k v=vs:=by
      apply iO;intro j
      by_cases hj:k=j
      ·subst hj;rw[gR,K];simp
      ·rw[dh hj]
     rw[m]at Q H;rw[m,G]at I;rw[DV.qbC,dq]at H;have R:a8 ((n,AV.d (.tup (vs.set k v.clr)))::sx.r) sv.r n=DV.owns (vs.take k) (us.take k)++DV.owns (vs.drop (k+1)) (us.drop (k+1)):=by
      have W:lk sv.r n=some (.d (.tup us)):=N;unfold a8;rw[W];simp only[lk,if_true,AV.own,DV.own];exact H
     have C:∀t,t≠n->a8 ((n,AV.d (.tup (vs.set k v.clr)))::sx.r) sv.r t=a8 sx.r sv.r t:=fun t b=>by
      unfold a8;simp only[lk];rw[ak b]
     have D:(a8 ((n,AV.d (.tup (vs.set k v.clr)))::sx.r) sv.r n).Sublist (a8 sx.r sv.r n):=by
      rw[R,l,I,b7];exact gw (bX _) (gi _ _)
     have hR:Rel A0 T F p (sv.c+i) ⟨(n,.d (.tup (vs.set k v.clr)))::sx.r,sx.B⟩ sv:=by
      refine⟨fun t y hy=> ?_,h.boxes,h.held.shrink (fun ℓ=> ?_) (fun a ha _=>ha) (fun _ Y=>Y),fun t b=> ?_,fun t b=> ?_,h.am⟩
      ·simp only[lk]at hy
       split at hy
       ·rename_i he;subst he
        simp at hy;subst hy
        exact⟨_,N,by simp only[AV.fit,DV.fit];exact⟨_,rfl,_,rfl,Q⟩⟩
       ·exact h.regs t y hy
      ·cases ℓ with
       |reg t=>
        simp only[ay]
        by_cases b:t=n
        ·subst b;exact D
        ·rw[C t b];exact bX _
       |box j=>exact bX _
      ·have:t≠n:=by rintro rfl;rw[hn]at b;simp at b
       rw[C t this];exact h.nl t b
      ·simp only[lk]at b
       split at b
       ·simp at b
       ·exact h.no t b
     have g:=h.held.nodup (.reg n);simp only[ay]at g;rw[l,I,b7]at g;refine hR.put dst z (bT _) (fun _=>⟨?_,fun a ha=> ?_⟩) (fun a ha _=>ha) (fun _ hi=> .inl hi) _
     ·exact(co.1 (co.1 g).2.1).1
     ·simp only[AV.own]at ha
      have J:a∈ay sx.r sx.B sv.r sv.B (.reg n):=by simp only[ay];rw[l];exact e.subset ha
      obtain⟨q1,q2,q3⟩:=h.held.opn _ a J;refine⟨q1,q2,fun Y=>q3 (Y.le (bT _)),fun ℓ _ hm=> ?_⟩;cases ℓ with
      |reg t=>
       simp only[ay]at hm
       by_cases b:t=n
       ·subst b
        rw[R]at hm;rw[co]at g;obtain⟨_,n2,n3⟩:=g;rw[co]at n2;rcases bl.1 hm with hm|hm
        ·exact n3 a hm a (by simp[ha]) rfl
        ·exact n2.2.2 a ha a hm rfl
       ·rw[C t b]at hm
        have:=h.held.apart (.reg n) (.reg t) a J hm;simp at this;exact b this.symm
      |box j=>
       have:=h.held.apart (.reg n) (.box j) a J hm;simp at this
 ·simp at hx
theorem KF{o:VOper}(g:o.op.gen=true)(h:Rel A0 T F p (sv.c+i) sx sv)(hx:(aA sx.r o.op).map (fun v=>aS T sx o.dst v.clr)=some sx')(b:aP V p draw L0 i o sv=(aA sv.r o.op).map fun v=>sv.put o.dst v):dY A0 T F p V draw L0 i o sv sx':=by
 obtain⟨a,h1,rfl⟩:=au.1 hx;obtain⟨v,d,e⟩:=RR h.er g h1;refine dQ (sv:=sv) (s:=sv) (v:=v) (by rw[b,d];rfl) rfl ?_;exact h.put0 o.dst e (AV.qbC _ _) (bT _) _
theorem SH{dst:Option Nat}{sz:Nat}{arr:Option Nat}{x y:VX}{gd:Option (Nat×Bool)}{af:List Nat}(h:Rel A0 T F p (sv.c+i) sx sv)(hx:aT X lin T draw L0 ⟨dst,.indexAddr sz arr x y,gd,af⟩ sx=some sx'):dY A0 T F p V draw L0 i ⟨dst,.indexAddr sz arr x y,gd,af⟩ sv sx':=by
 have gen:(aA sx.r (.indexAddr sz arr x y)).map (fun v=>aS T sx dst v.clr)=some sx'->dY A0 T F p V draw L0 i ⟨dst,.indexAddr sz arr x y,gd,af⟩ sv sx':=fun hx=>KF (o:=⟨dst,.indexAddr sz arr x y,gd,af⟩) (by rfl) h hx (by rfl)
 simp only[aT]at hx;unfold p_ at hx;split at hx
 ·rename_i n hT
  split at hx
  ·rename_i g xs kd k h1 h2
   split at hx
   ·rename_i x3
    obtain⟨e,Y,W⟩:=aw.1 hx;split at W
    ·rename_i hsz
     simp only[aB]at W;subst W;obtain⟨w,Z,M⟩:=h.get h1;have hy:=h.getInt h2;have R:=eo h1 Z;simp only[AV.fit,DV.fit]at M;obtain⟨_,rfl,g',ys,rfl,l,hg⟩:=M;obtain⟨m,h6,S⟩:=DV.qb3 l Y;have hlen:m.cells.length=sz:=by rw[DV.qby S];exact hsz.1
     have x2:=DV.qa2 S;have Q:(AV.ep e.cells).fit (.ep m.cells):=by simp only[AV.fit];exact⟨_,rfl,x2⟩
     have D:DV.owns e.cells m.cells=e.own m:=DV.qdo S;refine dQ (sv:=sv) (s:=sv) (v:= .ep m.cells) (by simp only[aP,aA,Z,hy,ap x3,h6,aQ,ap (And.intro hlen hsz.2),bz]) rfl ?_;have hk:k.toNat<xs.length:=(aK.1 Y).1;have z:(e.own m).Sublist (DV.owns xs ys):=DV.qcw Y h6;simp only[AV.own,DV.own]at R;cases hn:T.contains n with
     |false=>
      simp only[bI,if_false];refine h.put0 dst Q ?_ (bT _) _;rw[nr,h.nl n hn]at R;have:DV.owns xs ys=[]:=(uZ.1 R.symm).2;rw[this]at z;simp only[AV.own];rw[D];exact od.1 z
     |true=>
      simp only[if_true];rw[nr]at R;have u:ys.set k.toNat m=ys:=by
       apply iO;intro j
       by_cases hj:k.toNat=j
       ·subst hj;rw[gR,h6];simp
       ·rw[dh hj]
      have O:=wH l (i:=k.toNat) (DV.qcK _ _ S);have G:=lZ l hk e.clr m;have N:=lZ l hk e m;have J:xs.set k.toNat e=xs:=by
       apply iO;intro j
       by_cases hj:k.toNat=j
       ·subst hj;rw[gR,Y];simp
       ·rw[dh hj]
      rw[u]at O G;rw[u,J]at N;rw[DV.qbC,dq]at G;have P:a8 ((n,AV.d (.sl g (xs.set k.toNat e.clr)))::sx.r) sv.r n=(if g=U/\xs.length≠0 then g'.ids else [])++(DV.owns (xs.take k.toNat) (ys.take k.toNat)++DV.owns (xs.drop (k.toNat+1)) (ys.drop (k.toNat+1))):=by
       have x1:lk sv.r n=some (.d (.sl g' ys)):=Z;unfold a8;rw[x1];simp only[lk,if_true,AV.own,DV.own,kr];rw[G]
      have H:∀t,t≠n->a8 ((n,AV.d (.sl g (xs.set k.toNat e.clr)))::sx.r) sv.r t=a8 sx.r sv.r t:=fun t b=>by
       unfold a8;simp only[lk];rw[ak b]
      have C:a8 sx.r sv.r n=(if g=U/\xs.length≠0 then g'.ids else [])++(DV.owns (xs.take k.toNat) (ys.take k.toNat)++(e.own m++DV.owns (xs.drop (k.toNat+1)) (ys.drop (k.toNat+1)))):=by
       rw[R,N,b7]
      have I:(a8 ((n,AV.d (.sl g (xs.set k.toNat e.clr)))::sx.r) sv.r n).Sublist (a8 sx.r sv.r n):=by
       rw[P,C];exact gw (bX _) (gw (bX _) (gi _ _))
      have hR:Rel A0 T F p (sv.c+i) ⟨(n,.d (.sl g (xs.set k.toNat e.clr)))::sx.r,sx.B⟩ sv:=by
       refine⟨fun t y hy=> ?_,h.boxes,h.held.shrink (fun ℓ=> ?_) (fun a ha _=>ha) (fun _ M=>M),fun t b=> ?_,fun t b=> ?_,h.am⟩
       ·simp only[lk]at hy
        split at hy
        ·rename_i he;subst he
         simp at hy;subst hy
         exact⟨_,Z,by simp only[AV.fit,DV.fit];exact⟨_,rfl,g',ys,rfl,O,by rw[kr];exact hg⟩⟩
        ·exact h.regs t y hy
       ·cases ℓ with
        |reg t=>
         simp only[ay]
         by_cases b:t=n
         ·subst b;exact I
         ·rw[H t b];exact bX _
        |box j=>exact bX _
       ·have:t≠n:=by rintro rfl;rw[hn]at b;simp at b
        rw[H t this];exact h.nl t b
       ·simp only[lk]at b
        split at b
        ·simp at b
        ·exact h.no t b
      have q:=h.held.nodup (.reg n);simp only[ay]at q;rw[C]at q;rw[co]at q;obtain⟨m1,m2,m3⟩:=q;rw[co]at m2;obtain⟨p1,p2,p3⟩:=m2;rw[co]at p2;refine hR.put dst Q (bT _) (fun _=>⟨?_,fun a ha=> ?_⟩) (fun a ha _=>ha) (fun _ hi=> .inl hi) _
      ·simp only[AV.own];rw[D];exact p2.1
      ·simp only[AV.own]at ha
       rw[D]at ha;have K:a∈ay sx.r sx.B sv.r sv.B (.reg n):=by simp only[ay];rw[C];simp[ha]
       obtain⟨q1,q2,q3⟩:=h.held.opn _ a K;refine⟨q1,q2,fun M=>q3 (M.le (bT _)),fun ℓ _ hm=> ?_⟩;cases ℓ with
       |reg t=>
        simp only[ay]at hm
        by_cases b:t=n
        ·subst b
         rw[P]at hm;rcases bl.1 hm with hm|hm
         ·exact m3 a hm a (by simp[ha]) rfl
         ·rcases bl.1 hm with hm|hm
          ·exact p3 a hm a (by simp[ha]) rfl
          ·exact p2.2.2 a ha a hm rfl
        ·rw[H t b]at hm
         have:=h.held.apart (.reg n) (.reg t) a K hm;simp at this;exact b this.symm
       |box j=>
        have:=h.held.apart (.reg n) (.box j) a K hm;simp at this
    ·simp at W
   ·simp at hx
  ·simp at hx
 ·exact gen hx
end
theorem tW(agg:Bool)(sz:Nat):∀(n:Nat) (cs ds xs:List DV),DV.fits cs ds->chunks agg sz n cs=some xs->∃ys,chunks agg sz n ds=some ys/\DV.fits xs ys/\(∀e:DV,e∈ys->e.cells.length=sz)/\(DV.owns xs ys).Sublist (DV.owns cs ds)/\xs.length=n
 |0,cs,ds,xs,d,h=>by simp[chunks]at h;subst h;exact⟨[],rfl,by simp[DV.fits],by simp,by simp[DV.owns],rfl⟩
 |n+1,cs,ds,xs,d,h=>by
  simp only[chunks]at h;obtain⟨v,h1,g⟩:=aw.1 h;split at g
  ·rename_i hc
   obtain⟨l,w,rfl⟩:=au.1 g;obtain⟨u,b,c⟩:=FV d h1;obtain⟨ys,t,m,r,q,j⟩:=tW agg sz n _ _ l (DV.qbu d sz) w;refine⟨u::ys,?_,by simp only[DV.fits];exact⟨_,_,rfl,c,m⟩,?_,?_,by simp[j]⟩
   ·simp only[chunks,b,aQ]
    rw[ap ⟨by rw[DV.qby c];exact hc.1,by rw[DV.qbt (DV.qa2 c)];exact hc.2⟩,t];rfl
   ·intro e he
    rcases br.1 he with rfl|he
    ·rw[DV.qby c];exact hc.1
    ·exact r e he
   ·simp only[DV.owns]
    rw[DV.qbN (DV.qan d) sz];refine gw ?_ q;unfold cut at h1 b;cases agg with
    |true=>
     simp only[if_true]at h1 b;split at h1<;>simp at h1
     split at b<;>simp at b
     subst h1;subst b
     simp only[DV.own];exact bX _
    |false=>
     simp only[bI,if_false]at h1 b;rcases kf sz with s|a
     ·have:v.cells=[]:=kp.1 (by rw[hc.1,s])
      rw[<-DV.qdo c,this];simp[DV.owns]
     ·exact DV.qcw (i:=0) (by rw[ew];simp[a,h1]) (by rw[ew];simp[a,b])
  ·simp at g
theorem yg{f g:AV->Option DV}(b:∀(x v:AV) (d:DV),x.fit v->f x=some d->∃c,g v=some c/\d.fit c):∀(xs vs:List AV) (ds:List DV),AV.fits xs vs->cp f xs=some ds->∃es,cp g vs=some es/\DV.fits ds es
 | [],vs,ds,a,h=>by
  simp only[AV.fits]at a;subst a
  simp only[cp,aB]at h;subst h
  exact⟨[],rfl,by simp[DV.fits]⟩
 |x::xs,vs,ds,a,h=>by
  simp only[AV.fits]at a;obtain⟨v,vs,rfl,h1,m⟩:=a;simp only[cp]at h;obtain⟨d,n,l⟩:=aw.1 h;obtain⟨e,q,rfl⟩:=au.1 l;obtain⟨c,j,r⟩:=b x v d h1 n;obtain⟨es,t,s⟩:=yg b xs vs e m q;exact⟨c::es,by simp only[cp,j,t,aQ,bz],by simp only[DV.fits];exact⟨_,_,rfl,r,s⟩⟩
theorem xe{B Bv:ah}(hb:qbb B Bv):∀(n:Nat) (x v:AV) (d:DV),x.fit v->x.frzC B n=some d->∃b,v.frzC Bv n=some b/\d.fit b:=by
 have base:∀n (x:DV) (v:AV) (d:DV),(AV.d x).fit v->(AV.d x).frzC B n=some d->∃b,v.frzC Bv n=some b/\d.fit b:=by
  intro n x v d a h;simp only[AV.fit]at a;obtain⟨y,rfl,h1⟩:=a;cases n<;>(simp only[AV.frzC,aB]at h;subst h;exact⟨y,by simp only[AV.frzC],h1⟩)
 intro n
 induction n with
 |zero=>
  intro x v d a h;cases x with
  |d x=>exact base 0 x v d a h
  |_=>simp[AV.frzC]at h
 |succ n g=>
  intro x v d a h;cases x with
  |d x=>exact base _ x v d a h
  |tsl ag i sz m=>
   simp only[AV.fit]at a;subst a
   simp only[AV.frzC]at h⊢
   obtain⟨cs,h1,l⟩:=aw.1 h;obtain⟨ds,u,c⟩:=aw.1 l;obtain⟨cs',t,s⟩:=hb.get h1;obtain⟨es,j,e⟩:=yg g cs cs' ds s u;rw[t,aQ,j,aQ,<-DV.qan e];split at c
   ·rename_i w
    rw[ap w];obtain⟨xs,q,rfl⟩:=au.1 c;obtain⟨ys,r,z,_⟩:=tW ag sz m ds es xs e q;exact⟨_,by rw[r];rfl,by simp only[DV.fit];exact⟨_,_,rfl,z,.inl rfl⟩⟩
   ·simp at c
  |_=>simp[AV.frzC]at h
theorem U5{B Bv:ah}(hb:qbb B Bv)(x v:AV)(d:DV)(a:x.fit v)(h:x.frz B=some d):∃g,v.frz Bv=some g/\d.fit g:=by
 cases x with
 |ag t cs=>
  cases t with
  |true=>simp only[AV.frz]at h;cases hB:B.length<;>simp[hB,AV.frzC]at h
  |false=>
   simp only[AV.fit]at a;obtain⟨cs',rfl,h1,_⟩:=a;simp only[AV.frz]at h⊢
   obtain⟨ds,c,b⟩:=aw.1 h;rw[hb.1]at c;obtain⟨es,j,e⟩:=yg (xe hb _) cs cs' ds h1 c;rw[j,aQ,DV.qbt e];split at b
   ·rename_i hc
    rw[ap hc];simp only[aB]at b;subst b
    exact⟨_,rfl,by simp only[DV.fit];exact⟨_,rfl,e⟩⟩
   ·simp at b
 |d x=>
  have:=xe hb B.length _ v d a (by simpa only[AV.frz]using h);rw[hb.1]at this;simp only[AV.fit]at a;obtain⟨y,rfl,_⟩:=a;simpa only[AV.frz]using this
 |tsl ag i sz m=>
  have:=xe hb B.length _ v d a (by simpa only[AV.frz]using h);rw[hb.1]at this;simp only[AV.fit]at a;subst a
  simpa only[AV.frz]using this
 |_=>simp only[AV.frz]at h;cases hB:B.length<;>simp[hB,AV.frzC]at h
def BF:ah->ah->Prop
 | [],ys=>ys=[]
 |b::bs,ys=>∃cs ds vs,b=some cs/\ys=some ds::vs/\AV.fits cs ds/\AV.owns cs ds=[]/\BF bs vs
theorem BF.append:∀{a c b d:ah},BF a c->BF b d->BF (a++b) (c++d)
 | [],c,b,d,h,e=>by simp only[BF]at h;subst h;exact e
 |x::xs,c,b,d,h,e=>by
  simp only[BF]at h;obtain⟨cs,ds,vs,rfl,rfl,h1,g,j⟩:=h;simp only[cP,BF];exact⟨_,_,_,rfl,rfl,h1,g,BF.append j e⟩
theorem BF.len:∀{a c:ah},BF a c->a.length=c.length
 | [],c,h=>by simp only[BF]at h;subst h;rfl
 |x::xs,c,h=>by
  simp only[BF]at h;obtain⟨cs,ds,vs,rfl,rfl,_,_,b⟩:=h;simp[b.len]
theorem BF.get:∀{a c:ah},BF a c->∀i:Nat,i<a.length->∃cs ds,a[i]?=some (some cs)/\c[i]?=some (some ds)/\AV.fits cs ds/\AV.owns cs ds=[]
 | [],c,h,i,hi=>by simp at hi
 |x::xs,c,h,i,hi=>by
  simp only[BF]at h;obtain⟨cs,ds,vs,rfl,rfl,h1,b,d⟩:=h;cases i with
  |zero=>exact⟨cs,ds,rfl,rfl,h1,b⟩
  |succ i=>simpa using d.get i (by simpa using hi)
theorem BF.one{cs ds:List AV}(h1:AV.fits cs ds)(a:AV.owns cs ds=[]):BF [some cs] [some ds]:=by simp only[BF];exact⟨_,_,_,rfl,rfl,h1,a,rfl⟩
theorem qDn{x v:DV}(h:x.fit v):bJ v=bJ x:=by
 cases x<;>simp only[DV.fit]at h
 case agg cs=>obtain⟨ds,rfl,h1⟩:=h;rfl
 case sl g xs=>obtain⟨g',ys,rfl,h1,a⟩:=h;rfl
 case tup cs=>obtain⟨ds,rfl,h1⟩:=h;rfl
 all_goals subst h;rfl
mutual
theorem Rt:∀(x v:DV),x.fit v->x.allU=true->∃l,v.names=some l/\l.Perm (x.own v)
 | .int k n,v,h,_=>by simp only[DV.fit]at h;subst h;exact⟨[],rfl,by simp[DV.own]⟩
 | .bool k,v,h,_=>by simp only[DV.fit]at h;subst h;exact⟨[],rfl,by simp[DV.own]⟩
 | .str k,v,h,_=>by simp only[DV.fit]at h;subst h;exact⟨[],rfl,by simp[DV.own]⟩
 | .tup vs,v,h,b=>by simp[DV.allU]at b
 | .agg cs,v,h,b=>by
  simp only[DV.fit]at h;obtain⟨ds,rfl,h1⟩:=h;simp only[DV.allU]at b;simp only[DV.names,DV.own];exact yM cs ds h1 b
 | .sl g [],v,h,_=>by
  simp only[DV.fit,DV.fits]at h;obtain⟨g',ys,rfl,rfl,_⟩:=h;exact⟨[],by cases g'<;>rfl,by simp[DV.own,DV.owns]⟩
 | .sl g (x::xs),v,h,b=>by
  simp only[DV.fit]at h;obtain⟨g',ys,rfl,h1,j⟩:=h;simp only[DV.allU,aF,ba]at b;obtain⟨rfl,b⟩:=b;obtain⟨l,m,e⟩:=yM (x::xs) ys h1 b;rcases j with d|⟨_,d⟩
  ·exact absurd d (by decide)
  rcases d with⟨c,_⟩|⟨c,a,sz,rfl,_⟩
  ·simp at c
  ·simp only[DV.fits]at h1
   obtain⟨y,q,rfl,_,_⟩:=h1;refine⟨l++[a],by simp only[DV.names,m,bz],?_⟩;simp only[DV.own];rw[ap ⟨trivial,c⟩];exact kS.trans (List.Perm.append (iU _) e)
theorem yM:∀(xs vs:List DV),DV.fits xs vs->DV.allUs xs=true->∃l,DV.namess vs=some l/\l.Perm (DV.owns xs vs)
 | [],vs,h,_=>by simp only[DV.fits]at h;subst h;exact⟨[],rfl,by simp[DV.owns]⟩
 |x::xs,vs,h,a=>by
  simp only[DV.fits]at h;obtain⟨v,vs,rfl,h1,j⟩:=h;simp only[DV.allUs,aF]at a;obtain⟨e,d,c⟩:=Rt x v h1 a.1;obtain⟨m,b,g⟩:=yM xs vs j a.2;exact⟨e++m,by simp only[DV.namess,d,b,aQ,bz],by simp only[DV.owns];exact List.Perm.append c g⟩
end
section
variable {A0:Ids} {T:List Nat} {F:Id->Prop} {p:Id} {sx sx':XS} {sv:St} {X:bM} {V:aZ} {lin:Nat->List Nat} {draw:Bool} {L0 i:Nat}
theorem Rel.app{k:Nat}(h:Rel A0 T F p k sx sv){Bs Bvs:ah}(hb:BF Bs Bvs):Rel A0 T F p k ⟨sx.r,sx.B++Bs⟩ {sv with B:=sv.B++Bvs}:=by
 have g:=hb.len;have b:=h.boxes.1;have d:qbb (sx.B++Bs) (sv.B++Bvs):=by
  refine⟨by simp[b,g],fun i=> ?_⟩
  by_cases hi:i<sx.B.length
  ·rw[bY hi,bY (by rw[<-b];exact hi)];exact h.boxes.2 i
  ·rw[cj (by omega),cj (by rw[<-b];omega),b]
   rw[b]at hi
   by_cases c:i-sv.B.length<Bs.length
   ·obtain⟨cs,ds,h1,e,m,l⟩:=hb.get _ c
    rw[h1,e];exact⟨by simp,fun cs' hc=>⟨ds,rfl,by simp at hc;subst hc;exact m⟩⟩
   ·rw[f8 (by omega)];simp
 refine⟨h.regs,d,h.held.shrink (fun ℓ=> ?_) (fun a ha _=>ha) (fun _ n=>n),h.nl,h.no,h.am⟩;cases ℓ with
 |reg t=>exact bX _
 |box j=>
  simp only[ay,aW,aI]
  by_cases hi:j<sx.B.length
  ·rw[bY hi,bY (by rw[<-b];exact hi)];exact bX _
  ·rw[cj (by omega),cj (by rw[<-b];omega),b]
   rw[b]at hi
   by_cases c:j-sv.B.length<Bs.length
   ·obtain⟨cs,ds,h1,e,m,l⟩:=hb.get _ c
    rw[h1,e];simp only[l];exact jG _
   ·rw[f8 (by omega:Bs.length<=j-sv.B.length)]
    exact jG _
theorem eA(v u:AV)(t:Nat):a8 [(0,v)] [(0,u)] t=if t=0 then v.own u else []:=by
 unfold a8;by_cases a:t=0<;>simp[lk,a]
end
section
variable {A0:Ids} {T:List Nat} {F:Id->Prop} {p:Id} {sx sx':XS} {sv:St} {X:bM} {V:aZ} {lin:Nat->List Nat} {draw:Bool} {L0 i:Nat}
theorem Rel.getR{k:Nat}(h:Rel A0 T F p k sx sv){c b o:Nat}(hx:lk sx.r c=some (.ptr b o)):lk sv.r c=some (.ptr b o):=by
 obtain⟨v,h1,a⟩:=h.regs c _ hx;simp only[AV.fit]at a;subst a;exact h1
theorem Xt{dst:Option Nat}{agg:Bool}{sz:Nat}{x:VX}{c:Nat}{gd:Option (Nat×Bool)}{af:List Nat}(h:Rel A0 T F p (sv.c+i) sx sv)(hx:aT X lin T draw L0 ⟨dst,.loadS agg sz x c,gd,af⟩ sx=some sx'):dY A0 T F p V draw L0 i ⟨dst,.loadS agg sz x c,gd,af⟩ sv sx':=by
 simp only[aT]at hx;split at hx
 ·rename_i b off j l h1 a
  split at hx
  ·simp at hx
  ·rename_i hd
   obtain⟨v,g,rfl⟩:=au.1 hx;obtain⟨u,d,e⟩:=h.takeBox dst g (bT _) sv.c;exact dQ (sv:=sv) (s:=sv) (v:=u) (by simp only[aP,h.getPtr h1,h.getR a,d,bz];rw[ak hd]) rfl e
 ·simp at hx
theorem Rel.setClr{k:Nat}(h:Rel A0 T F p k sx sv)(b:Nat){cs ds:List AV}(c:AV.fits cs ds):Rel A0 T F p k ⟨sx.r,sx.B.set b (some (AV.clrs cs))⟩ {sv with B:=sv.B.set b (some ds)}:=by
 obtain⟨f1,f2⟩:=AV.qbh _ _ c;refine⟨h.regs,h.boxes.set b f1,h.held.shrink (fun ℓ=> ?_) (fun a ha _=>ha) (fun _ c=>c),h.nl,h.no,h.am⟩;cases ℓ with
 |reg t=>exact bX _
 |box j=>
  simp only[ay]
  by_cases hj:b=j
  ·subst hj
   by_cases hb:b<sx.B.length
   ·rw[uI hb (by rw[<-h.boxes.1];exact hb),f2];exact jG _
   ·unfold aW aI
    rw[f8 (by rw[kr];omega)];exact jG _
  ·rw[sW hj];exact bX _
theorem S6(K:gr X V lin){dst:Option Nat}{c:Nat}{f:VX}{args:List VX}{gd:Option (Nat×Bool)}{af:List Nat}(h:Rel A0 T F p (sv.c+i) sx sv)(hx:aT X lin T draw L0 ⟨dst,.callS c f args,gd,af⟩ sx=some sx'):dY A0 T F p V draw L0 i ⟨dst,.callS c f args,gd,af⟩ sv sx':=by
 simp only[aT]at hx;split at hx
 ·rename_i k b off vs b' o' h1 h2 x1
  obtain⟨fv,h3,h4⟩:=h.get h1;simp only[AV.fit]at h4;obtain⟨Z,rfl,e,hco⟩:=h4;simp only[AV.fits]at e;subst e
  obtain⟨a1,h5,m,hvl,hvo⟩:=CG h h2;simp only[AV.fits]at m;obtain⟨v0,l,rfl,C,m⟩:=m;simp only[AV.fit]at C;subst C
  split at hx
  ·simp at hx
  rename_i O;obtain⟨ds,d1,hx⟩:=aw.1 hx;obtain⟨cs,d2,hx⟩:=aw.1 hx;obtain⟨es,d3,hx⟩:=aw.1 hx;split at hx
  ·rename_i v cs' x
   obtain⟨es',d4,rfl⟩:=au.1 hx;obtain⟨a2,w1,_,_⟩:=jO d1 m;obtain⟨g,w2,e⟩:=h.boxes.get d2;obtain⟨x3,w3,_,_⟩:=jO d3 e;have w:AV.fits (.ptr 0 off::cK [] 0 vs) (.ptr 0 off::l):=by
    simp only[AV.fits];exact⟨_,_,rfl,by simp only[AV.fit],BE (LP:=[]) m 0⟩
   have I:∀j,a8 (aV 0 (.ptr 0 off::cK [] 0 vs)) (aV 0 (.ptr 0 off::l)) j=[]:=by
    intro j;rw[mV];cases j with
    |zero=>simp[AV.own]
    |succ j=>
     simp only[lH,rq];cases vs[j]? with
     |none=>rfl
     |some a=>cases l[j]? with
      |none=>rfl
      |some b=>simp[AV.qbC]
   have Y:∀j,aW [some (AV.clrs cs)] [some g] j=[]:=by
    intro j;cases j with
    |zero=>simp only[aW,aI,d9];exact(AV.qbh _ _ e).2
    |succ j=>simp[aW,aI]
   have n:∀ℓ,ay (aV 0 (.ptr 0 off::cK [] 0 vs)) [some (AV.clrs cs)] (aV 0 (.ptr 0 off::l)) [some g] ℓ=[]:=by
    intro ℓ;cases ℓ with
    |reg t=>exact I t
    |box j=>exact Y j
   have P:qbb [some (AV.clrs cs)] [some g]:=by
    refine⟨rfl,fun j=> ?_⟩;cases j with
    |zero=>exact⟨by simp,fun b2 hc=>⟨g,rfl,by simp at hc;subst hc;exact(AV.qbh _ _ e).1⟩⟩
    |succ j=>simp
   obtain⟨u,Bv',A1,hV,G,z,hh,J⟩:=K k _ _ _ _ x ((sv.c+i)::p) (.ptr 0 off::l) [some g] Ids.none (fun _=>False) w P
    ⟨fun ℓ=>by rw[n];simp,fun ℓ ℓ' a ha=>by rw[n]at ha;simp at ha,fun ℓ a ha=>by rw[n]at ha;simp at ha,fun a ha=>by simp at ha⟩ (fun j _=>I j) (fun a ha=>by simp[Ids.none]at ha)
   simp only[AV.fit]at G;obtain⟨y,rfl,W⟩:=G;obtain⟨csv',rfl,q⟩:∃csv',Bv'=[some csv']/\AV.fits cs' csv':=by
    obtain⟨l1,R⟩:=z
    match Bv',l1,R with
    | [b1],_,R=>
     obtain⟨S,N,H⟩:=(R 0).2 cs' rfl;simp only[d9,aB]at N;exact⟨S,by rw[N],H⟩
   obtain⟨x2,w4,_,_⟩:=jO d4 q;have D:∀a,a∈(AV.d v).own (.d y)->A1 a=true/\Fut ((sv.c+i)::p) 0 a:=by
    intro a ha;have M:a∈ay [(0,AV.d v)] [some cs'] [(0,.d y)] [some csv'] (.reg 0):=by simp only[ay,eA];simpa using ha
    refine⟨(hh.opn _ a M).1,?_⟩;rcases J a (hh.opn _ a M).1 with r|r
    ·simp[Ids.none]at r
    ·exact r
   have Q:((AV.d v).own (.d y)).Nodup:=by
    have:=hh.nodup (.reg 0);simp only[ay,eA]at this;simpa using this
   have hs:=h.setClr b q;refine dQ (sv:=sv) (s:={sv with B:=sv.B.set b (some csv'),A:=Ids.or A1 sv.A}) (v:= .d y) (by simp only[aP,h3,h5,h.getR x1,ak O,w1,w2,w3,aQ,hV,w4,bz]) rfl ?_;have:=hs.put dst (a:= .d v) (v:= .d y) (A':=Ids.or A1 sv.A) (k':=sv.c+i+1) (by simp only[AV.fit];exact⟨_,rfl,W⟩) (bT _) (fun _=>⟨Q,fun a ha=> ?_⟩) (fun a ha _=>by simp only at ha;simp[Ids.or,ha]) (fun a ha=>by
    simp only[Ids.or,ci]at ha;rcases ha with ha|ha
    ·rcases J a ha with r|r
     ·simp[Ids.none]at r
     ·exact .inr ⟨r.sub.le (cE _),r.qio (j5 _)⟩
    ·exact .inl ha) sv.c
   ·exact this
   ·obtain⟨N,H⟩:=D a ha
    exact⟨by simp[Ids.or,N],fun hF=>(h.held.fr a hF).2 H.sub,H.qio (j5 _),fun ℓ _ hm=>(hs.held.opn ℓ a hm).2.2 H.sub⟩
  ·simp at hx
 ·simp at hx
end
section
variable {A0:Ids} {T:List Nat} {F:Id->Prop} {p:Id} {sx sx':XS} {sv:St} {X:bM} {V:aZ} {lin:Nat->List Nat} {draw:Bool} {L0 i:Nat}
theorem XI(Y:gr X V lin){dst:Option Nat}{iso:Bool}{f:VX}{args:List VX}{gd:Option (Nat×Bool)}{af:List Nat}(h:Rel A0 T F p (sv.c+i) sx sv)(hx:aT X lin T draw L0 ⟨dst,.call iso f args,gd,af⟩ sx=some sx'):dY A0 T F p V draw L0 i ⟨dst,.call iso f args,gd,af⟩ sv sx':=by
 simp only[aT]at hx;split at hx
 ·rename_i k caps vs h1 h2
  obtain⟨fv,h3,h4⟩:=h.get h1;simp only[AV.fit]at h4;obtain⟨m,rfl,x3,hco⟩:=h4;obtain⟨l,h5,N,hvl,hvo⟩:=CG h h2;cases iso with
  |true=>
   simp only[if_true]at hx;split at hx
   ·rename_i ds hds
    split at hx
    ·rename_i v B D
     simp at hx;subst hx
     simp only[AV.fits]at x3;subst x3
     have w:=BE (LP:=[]) N 0;have hre:∀j,a8 (aV 0 (cK [] 0 vs)) (aV 0 l) j=[]:=by
      intro j;rw[mV,rq];cases vs[j]? with
      |none=>rfl
      |some a=>cases l[j]? with
       |none=>rfl
       |some b=>simp[AV.qbC]
     have O:∀ℓ,ay (aV 0 (cK [] 0 vs)) [] (aV 0 l) [] ℓ=[]:=by
      intro ℓ;cases ℓ with
      |reg t=>exact hre t
      |box j=>simp[ay,aW,aI]
     obtain⟨u,Bv',A1,hV,P,_,hh,Q⟩:=Y k _ _ _ _ D ((sv.c+i)::p) l [] Ids.none (fun _=>False) w ⟨rfl,by simp⟩
      ⟨fun ℓ=>by rw[O];simp,fun ℓ ℓ' a ha=>by rw[O]at ha;simp at ha,fun ℓ a ha=>by rw[O]at ha;simp at ha,fun a ha=>by simp at ha⟩ (fun j _=>hre j) (fun a ha=>by simp[Ids.none]at ha)
     simp only[AV.fit]at P;obtain⟨y,rfl,hfy⟩:=P;obtain⟨es,hes,_,_⟩:=jO hds N;have b2:∀a,a∈(AV.d v).own (.d y)->A1 a=true/\Fut ((sv.c+i)::p) 0 a:=by
      intro a ha;have e:a∈ay [(0,AV.d v)] B [(0,.d y)] Bv' (.reg 0):=by simp only[ay,eA];simpa using ha
      refine⟨(hh.opn _ a e).1,?_⟩;rcases Q a (hh.opn _ a e).1 with q|q
      ·simp[Ids.none]at q
      ·exact q
     refine dQ (sv:=sv) (s:={sv with A:=Ids.or A1 sv.A}) (v:= .d y) (by simp only[aP,h3,h5,if_true,hes,hV]) rfl ?_;refine h.put dst (by simp only[AV.fit];exact⟨_,rfl,hfy⟩) (bT _) (fun _=>⟨?_,fun a ha=> ?_⟩) (fun a ha _=>by simp[Ids.or,ha]) (fun a ha=>by
      simp only[Ids.or,ci]at ha;rcases ha with ha|ha
      ·rcases Q a ha with q|q
       ·simp[Ids.none]at q
       ·exact .inr ⟨q.sub.le (cE _),q.qio (j5 _)⟩
      ·exact .inl ha) _
     ·have:=hh.nodup (.reg 0)
      simp only[ay,eA]at this;simpa using this
     ·obtain⟨G,C⟩:=b2 a ha
      exact⟨by simp[Ids.or,G],fun J=>(h.held.fr a J).2 C.sub,C.qio (j5 _),fun ℓ _ hm=>(h.held.opn ℓ a hm).2.2 C.sub⟩
    ·simp at hx
   ·simp at hx
  |false=>
   simp only[bI,if_false]at hx;split at hx
   ·rename_i W
    split at hx
    ·rename_i v B D
     simp at hx;subst hx
     have w:=AV.qaU (BE (LP:=lin k) N 0) x3;have I:=h.drops (dr (lin k) 0 args);have hlen:(cK (lin k) 0 vs).length=l.length:=by rw[CZ];exact AV.qan N
     have M:∀j,a8 (aV 0 (cK (lin k) 0 vs++caps)) (aV 0 (l++m)) j=[]\/∃x,args[j]?=some x/\(lin k).contains j=true/\a8 (aV 0 (cK (lin k) 0 vs++caps)) (aV 0 (l++m)) j=b9 sx.r sv.r x:=by
      intro j;rw[mV]
      by_cases hj:j<l.length
      ·rw[bY (by rw[hlen];exact hj),bY hj,rq]
       have x1:j<vs.length:=by rw[AV.qan N];exact hj
       have hj3:j<args.length:=by rw[<-hvl];exact x1
       simp only[eQ];rw[eh x1,eh hj];simp only[bz];cases hc:(lin k).contains j with
       |false=>left;simp only[bI,if_false];exact AV.qbC _ _
       |true=>
        right;refine⟨args[j],by simp[hj3],rfl,?_⟩;simp only[if_true];exact hvo j _ _ _ (by simp[x1]) (by simp[hj]) (by simp[hj3])
      ·left
       rw[cj (by rw[hlen];omega),cj (by omega),hlen];split
       ·rename_i a b ha hb
        have:=AV.qcw ha hb;rw[hco]at this;exact od.1 this
       ·rfl
     have H:∀j a,a∈a8 (aV 0 (cK (lin k) 0 vs++caps)) (aV 0 (l++m)) j->∃x,args[j]?=some x/\(lin k).contains j=true/\x∈dr (lin k) 0 args/\a∈b9 sx.r sv.r x:=by
      intro j a ha;rcases M j with h0|⟨x,q,h7,h8⟩
      ·rw[h0]at ha;simp at ha
      ·exact⟨x,q,h7,DO _ args 0 j x q (by simpa using h7),by rw[<-h8];exact ha⟩
     have g:∀t a,a∈a8 (c7 T sx.r (dr (lin k) 0 args)) sv.r t->a∈a8 sx.r sv.r t:=by
      intro t a ha;rw[iP]at ha;split at ha
      ·simp at ha
      ·exact ha
     have b1:Held (fun a=>F a\/∃t,a∈a8 (c7 T sx.r (dr (lin k) 0 args)) sv.r t) (Fut ((sv.c+i)::p) 0) sv.A (ay (aV 0 (cK (lin k) 0 vs++caps)) sx.B (aV 0 (l++m)) sv.B):=by
      refine⟨fun ℓ=> ?_,fun ℓ ℓ' a ha e=> ?_,fun ℓ a ha=> ?_,fun a ha=> ?_⟩
      ·cases ℓ with
       |reg j=>
        simp only[ay];rcases M j with h0|⟨x,_,_,h8⟩
        ·rw[h0];simp
        ·rw[h8];exact h.qa4 x
       |box j=>exact h.held.nodup (.box j)
      ·cases ℓ with
       |reg j=>
        obtain⟨x,g1,g2,g3,g4⟩:=H j a ha;cases ℓ' with
        |reg K=>
         obtain⟨x',Z,a1,g3',S⟩:=H K a e;rcases Nat.lt_trichotomy j K with hlt|heq|hgt
         ·exact absurd S (h.qd4 (AU args 0 j K x x' W g1 Z (by simpa using g2) (by simpa using a1) hlt) g4)
         ·rw[heq]
         ·exact absurd g4 (h.qd4 (AU args 0 K j x' x W Z g1 (by simpa using a1) (by simpa using g2) hgt) S)
        |box K=>
         obtain⟨n,rfl,_,g5⟩:=h.qdD g4;have:=h.held.apart (.reg n) (.box K) a g5 e;simp at this
       |box j=>
        cases ℓ' with
        |reg K=>
         obtain⟨x',Z,a1,g3',S⟩:=H K a e;obtain⟨n,rfl,_,g5⟩:=h.qdD S;have:=h.held.apart (.reg n) (.box j) a g5 ha;simp at this
        |box K=>exact h.held.apart (.box j) (.box K) a ha e
      ·cases ℓ with
       |reg j=>
        obtain⟨x,g1,g2,g3,g4⟩:=H j a ha;obtain⟨G,C,R⟩:=h.qbU g4;refine⟨G,?_,fun z=>R z.sub⟩
        rintro(J|⟨t,ht⟩)
        ·exact C J
        ·exact h.qcv g3 g4 (.reg t) ht
       |box j=>
        obtain⟨G,C,R⟩:=h.held.opn (.box j) a ha;refine⟨G,?_,fun z=>R z.sub⟩
        rintro(J|⟨t,ht⟩)
        ·exact C J
        ·have:=h.held.apart (.box j) (.reg t) a ha (g t a ht)
         simp at this
      ·rcases ha with J|⟨t,ht⟩
       ·exact⟨(h.held.fr a J).1,fun z=>(h.held.fr a J).2 z.sub⟩
       ·obtain⟨G,C,R⟩:=h.held.opn (.reg t) a (g t a ht)
        exact⟨G,fun z=>R z.sub⟩
     obtain⟨u,Bv',A1,hV,P,hbf,hh,Q⟩:=Y k _ _ _ _ D ((sv.c+i)::p) (l++m) sv.B sv.A _ w h.boxes b1 (fun j hj=>by
      rcases M j with h0|⟨x,_,h7,_⟩
      ·exact h0
      ·rw[hj]at h7;simp at h7) (fun a ha z=>(h.am a ha).1 z.sub)
     have x2:∀a,A1 a=true->¬Fut p (sv.c+i+1) a/\(A0 a=true\/Fut p 0 a):=by
      intro a ha;rcases Q a ha with q|q
      ·exact⟨fun z=>(h.am a q).1 (z.le (bT _)),(h.am a q).2⟩
      ·exact⟨q.qio (j5 _),.inr (q.sub.le (cE _))⟩
     have a2:Rel A0 T F p (sv.c+i+1) ⟨c7 T sx.r (dr (lin k) 0 args),B⟩ {sv with A:=A1,B:=Bv'}:=by
      refine⟨I.regs,hbf,⟨fun ℓ=> ?_,fun ℓ ℓ' a ha e=> ?_,fun ℓ a ha=> ?_,fun a ha=>⟨(hh.fr a (.inl ha)).1,fun z=>(h.held.fr a ha).2 (z.le (bT _))⟩⟩,I.nl,I.no,x2⟩
      ·cases ℓ with
       |reg t=>exact I.held.nodup (.reg t)
       |box j=>exact hh.nodup (.box j)
      ·cases ℓ with
       |reg t=>cases ℓ' with
        |reg t'=>exact I.held.apart (.reg t) (.reg t') a ha e
        |box j=>exact absurd (.inr ⟨t,ha⟩) (hh.opn (.box j) a e).2.1
       |box j=>cases ℓ' with
        |reg t=>exact absurd (.inr ⟨t,e⟩) (hh.opn (.box j) a ha).2.1
        |box K=>exact hh.apart (.box j) (.box K) a ha e
      ·cases ℓ with
       |reg t=>
        obtain⟨G,C,R⟩:=I.held.opn (.reg t) a ha;exact⟨(hh.fr a (.inr ⟨t,ha⟩)).1,C,fun z=>R (z.le (bT _))⟩
       |box j=>
        obtain⟨G,C,R⟩:=hh.opn (.box j) a ha;exact⟨G,fun J=>C (.inl J),(x2 a G).1⟩
     refine dQ (sv:=sv) (s:={sv with A:=A1,B:=Bv'}) (v:=u) (by simp only[aP,h3,h5,bI,if_false,hV]) rfl ?_;refine a2.put dst P (aU _) (fun _=>⟨?_,fun a ha=> ?_⟩) (fun a ha _=>ha) (fun _ hi=> .inl hi) _
     ·have:=hh.nodup (.reg 0)
      simp only[ay,eA]at this;simpa using this
     ·have e:a∈ay [(0,v)] B [(0,u)] Bv' (.reg 0):=by simp only[ay,eA];simpa using ha
      obtain⟨G,C,R⟩:=hh.opn (.reg 0) a e;refine⟨G,fun J=>C (.inl J),(x2 a G).1,fun ℓ _ hm=> ?_⟩;cases ℓ with
      |reg t=>exact C (.inr ⟨t,hm⟩)
      |box j=>
       have:=hh.apart (.reg 0) (.box j) a e hm;simp at this
    ·simp at hx
   ·simp at hx
 ·simp at hx
theorem Pm(d:gr X V lin){o:VOper}(e:o.linOK T=true)(h:Rel A0 T F p (sv.c+i) sx sv)(hx:aT X lin T draw L0 o sx=some sx'):dY A0 T F p V draw L0 i o sv sx':=by
 obtain⟨dst,op,gd,af⟩:=o;cases op with
 |move x=>exact Wv h hx
 |pick c a b=>exact QP h hx
 |alloc k z=>exact Yf h hx
 |box k x=>exact VB h hx
 |build z ps=>exact UX h e hx
 |buildSlice sz z n ps=>exact SO h e hx
 |makeSlice k sz b z x=>exact Rj h hx
 |load ag sz x=>exact M9 h hx
 |store g sz a x=>exact KY h hx
 |storeN sz a x av=>exact YU h hx
 |append sz b x y=>exact YR h e hx
 |call iso f args=>exact XI d h hx
 |callS c f args=>exact S6 d h hx
 |append1 sz b x y j v t9=>exact O6 h e hx
 |loadS ag sz x c=>exact Xt h hx
 |extract x k=>exact WJ h hx
 |eqNil neg x=>simp[aT]at hx
 |indexAddr sz arr x y=>exact SH h hx
 |_=>exact KF (by rfl) h hx (by rfl)
theorem Fh{k:Nat}(h:Rel A0 T F p k sx sv){g:Option (Nat×Bool)}{b:Bool}(hw:cJ sx.r g=some b):cJ sv.r g=some b:=by
 cases g with
 |none=>exact hw
 |some q=>
  obtain⟨t,d⟩:=q;simp only[cJ]at hw⊢
  split at hw
  ·rename_i e h1
   obtain⟨v,c,a⟩:=h.regs t _ h1;simp only[AV.fit,DV.fit]at a;obtain⟨_,rfl,rfl⟩:=a;rw[c];exact hw
  ·rename_i h1
   obtain⟨v,c,a⟩:=h.regs t _ h1;simp only[AV.fit]at a;subst a;rw[c];exact hw
  ·simp at hw
theorem lr(b:gr X V lin):∀{os:List VOper} {i:Nat} {sx:XS} {sv:St},os.all (VOper.linOK T)=true->Rel A0 T F p (sv.c+i) sx sv->bd X lin T draw L0 os sx=some sx'->
 ∃e,cD V p draw L0 i os sv=some e/\Rel A0 T F p (sv.c+i+os.length) sx' e/\e.c=sv.c
 | [],i,sx,sv,_,h,hx=>by simp[bd]at hx;subst hx;exact⟨sv,rfl,h,rfl⟩
 |o::os,i,sx,sv,j,h,hx=>by
  simp only[fM,aF]at j;simp only[bd]at hx;split at hx
  ·rename_i hw
   obtain⟨s1,h1,q⟩:=aw.1 hx;obtain⟨v1,r,n,d⟩:=Pm b j.1 h h1;obtain⟨v2,m,g,l⟩:=lr b (i:=i+1) j.2 (by rw[d];exact n) q;refine⟨v2,by simp only[cD,Fh h hw,r,aQ];exact m,?_,by rw[l,d]⟩;rw[d]at g;rw[cB,show sv.c+i+(os.length+1)=sv.c+(i+1)+os.length by omega];exact g
  ·rename_i hw
   have n:Rel A0 T F p (sv.c+i+1) (aS T sx o.dst .und) (sv.put o.dst .und):=by
    have:=h.put0 o.dst (a:= .und) (v:= .und) (by simp[AV.fit]) (by simp[AV.own]) (bT _) sv.c;rw[uP]at this;exact this
   have d:(sv.put o.dst .und).c=sv.c:=wN _ _;obtain⟨v2,m,g,l⟩:=lr b (i:=i+1) j.2 (by rw[d];exact n) hx;refine⟨v2,by simp only[cD,Fh h hw];exact m,?_,by rw[l,d]⟩;rw[d]at g;rw[cB,show sv.c+i+(os.length+1)=sv.c+(i+1)+os.length by omega];exact g
  ·simp at hx
theorem nv(r:List (Nat×AV)):∀(live:List Nat) (t:Nat),lk (keep r live) t=if t∈live then lk r t else none
 | [],t=>by simp[keep,lk]
 |a::l,t=>by
  simp only[keep];cases ha:lk r a with
  |none=>
   simp only;rw[nv r l]
   by_cases b:t=a
   ·subst b;simp[ha]
   ·simp[b]
  |some v=>
   simp only[lk]
   by_cases b:t=a
   ·subst b;simp[ha]
   ·simp only[ak b];rw[nv r l];simp[b]
theorem re(c b:List (Nat×AV))(live:List Nat)(t:Nat):a8 (keep c live) (keep b live) t=if t∈live then a8 c b t else []:=by
 unfold a8;rw[nv,nv]
 by_cases a:t∈live
 ·simp only[ap a]
 ·simp only[ak a]
theorem Rel.keep{k:Nat}(h:Rel A0 T F p k sx sv)(live:List Nat):Rel A0 T F p k ⟨keep sx.r live,sx.B⟩ {sv with r:=Go.Proofs.YtpcoohnjllclnaaGreat.VS.keep sv.r live}:=by
 refine⟨fun t x hx=> ?_,h.boxes,h.held.shrink (fun ℓ=> ?_) (fun a ha _=>ha) (fun _ c=>c),fun t b=> ?_,fun t b=> ?_,h.am⟩
 ·simp only[nv]at hx⊢
  split at hx
  ·rename_i hm;rw[ap hm];exact h.regs t x hx
  ·simp at hx
 ·cases ℓ with
  |reg t=>simp only[ay,re];split<;>simp
  |box j=>exact bX _
 ·simp only[re];split
  ·exact h.nl t b
  ·rfl
 ·simp only[nv]at b⊢
  split at b
  ·rename_i hm;rw[ap hm];exact h.no t b
  ·rename_i hm;rw[ak hm]
theorem Rel.more{k:Nat}(h:Rel A0 T F p k sx sv)(n:Nat):Rel A0 T F p k ⟨sx.r,sx.B++List.replicate n none⟩ {sv with B:=sv.B++List.replicate n none}:=by
 refine⟨h.regs,h.boxes.more n,h.held.shrink (fun ℓ=> ?_) (fun a ha _=>ha) (fun _ b=>b),h.nl,h.no,h.am⟩;cases ℓ with
 |reg t=>exact bX _
 |box j=>simp only[ay,aW,qER];exact bX _
theorem Rel.cut{k:Nat}(h:Rel A0 T F p k sx sv)(n:Nat):Rel A0 T F p k ⟨sx.r,sx.B.take n⟩ {sv with B:=sv.B.take n}:=by
 refine⟨h.regs,h.boxes.take n,h.held.shrink (fun ℓ=> ?_) (fun a ha _=>ha) (fun _ b=>b),h.nl,h.no,h.am⟩;cases ℓ with
 |reg t=>exact bX _
 |box j=>
  simp only[ay,aW,rS]
  by_cases hj:j<n
  ·simp[hj]
  ·simp[hj]
theorem Rel.at{k k' c':Nat}(h:Rel A0 T F p k sx sv)(a:k<=k'):Rel A0 T F p k' sx {sv with c:=c'}:=by
 have:=h.next a;exact⟨this.regs,this.boxes,this.held,this.nl,this.no,this.am⟩
theorem VM(b:gr X V lin){draw:Bool}{na:Nat}{live:List Nat}{ops:List VOper}(g:ops.all (VOper.linOK T)=true)(h:Rel A0 T F p sv.c sx sv)(hx:iA X lin T draw na live ops sx=some sx'):
 ∃a,ib V p draw na live ops sv=some a/\Rel A0 T F p a.c sx' a:=by
 unfold iA at hx;split at hx
 ·simp at hx
 ·rename_i hd
  obtain⟨s1,h1,rfl⟩:=au.1 hx;have hm:=h.more na;obtain⟨v1,d,e,j⟩:=lr b (i:=0) (sv:={sv with B:=sv.B++List.replicate na none}) g (by simpa using hm) h1;rw[h.boxes.1]at d;simp only at e j;refine⟨{v1 with r:=keep v1.r live,c:=sv.c+ops.length},by unfold ib;rw[ak hd,d];rfl,?_⟩;have:=(e.keep live).at (k':=sv.c+ops.length) (c':=sv.c+ops.length) (by omega);exact this
theorem Tg(a:gr X V lin){na:Nat}{live:List Nat}{pre tl:List VOper}(d:pre.all (VOper.linOK T)=true)(e:tl.all (VOper.linOK T)=true)(h:Rel A0 T F p sv.c sx sv)(hx:kl X lin T na live pre tl sx=some sx'):
 ∃b,m8 V p na live pre tl sv=some b/\Rel A0 T F p b.c sx' b:=by
 unfold kl at hx;split at hx
 ·simp at hx
 ·rename_i hd
  obtain⟨s1,h1,hx⟩:=aw.1 hx;obtain⟨s2,l,rfl⟩:=au.1 hx;have hm:=h.more na;obtain⟨v1,j,g,e3⟩:=lr a (i:=0) (sv:={sv with B:=sv.B++List.replicate na none}) d (by simpa using hm) h1;rw[h.boxes.1]at j;simp only[oM]at g e3;obtain⟨v2,f1,f2,f3⟩:=lr a (i:=pre.length) (sv:=v1) (draw:=false) (L0:=sx.B.length) e (by rw[e3];exact g) l;rw[h.boxes.1]at f1;refine⟨{v2 with r:=keep v2.r live,c:=sv.c+(pre.length+tl.length)},by unfold m8;rw[ak hd,j];simp only[aQ,f1,bz],?_⟩;have:=(f2.keep live).at (k':=sv.c+(pre.length+tl.length)) (c':=sv.c+(pre.length+tl.length)) (by rw[e3];omega);exact this
theorem rP{k:Nat}(h:Rel A0 T F p k sx sv)(m:Nat):∀live:List Nat,aD m (keep sx.r live)=true->aD m (keep sv.r live)=true
 | [],_=>rfl
 |t::ts,hs=>by
  simp only[Go.Proofs.YtpcoohnjllclnaaGreat.VS.keep]at hs⊢
  cases ht:lk sx.r t with
  |none=>
   rw[ht]at hs;rw[h.no t ht];exact rP h m ts hs
  |some x=>
   rw[ht]at hs;obtain⟨v,h1,a⟩:=h.regs t x ht;rw[h1];simp only[aD,aF]at hs⊢
   exact⟨by rw[AV.qkp _ _ _ a];exact hs.1,rP h m ts hs.2⟩
theorem OD{L1:Nat}{live:List Nat}(h:Rel A0 T F p sv.c sx sv)(hx:aE L1 live sx=some sx'):∃a,qe L1 live sv=some a/\Rel A0 T F p a.c sx' a:=by
 unfold aE at hx;split at hx
 ·rename_i hc
  simp at hx;subst hx
  refine⟨{sv with r:=keep sv.r live,B:=sv.B.take L1},?_,(h.keep live).cut L1⟩;unfold qe;simp only;rw[ap ⟨rP h L1 live hc.1,by rw[<-h.boxes.1];exact hc.2⟩]
 ·simp at hx
theorem Yo{f:XS->Option (Ex×XS)}{g:St->Option (Ex×St)}(j:∀sx sv e sx',Rel A0 T F p sv.c sx sv->f sx=some (e,sx')->∃a,g sv=some (e,a)/\Rel A0 T F p a.c sx' a)(L1:Nat)(live:List Nat):
 ∀n sx sv e sx',Rel A0 T F p sv.c sx sv->fl f L1 live n sx=some (e,sx')->∃a,iX g L1 live n sv=some (e,a)/\Rel A0 T F p a.c sx' a:=by
 intro n
 induction n with
 |zero=>intro sx sv e sx' h hx;simp[fl]at hx
 |succ n l=>
  intro sx sv e sx' h hx;simp only[fl]at hx;obtain⟨s0,h1,m⟩:=aw.1 hx;obtain⟨⟨u,s1⟩,t,b⟩:=aw.1 m;obtain⟨v0,s,r⟩:=OD h h1;obtain⟨v1,q,d⟩:=j _ _ _ _ r t;simp only[iX,s,q,aQ];cases u with
  |normal=>exact l _ _ _ _ d b
  |exit id=>simp at b;obtain⟨rfl,rfl⟩:=b;exact⟨v1,rfl,d⟩
  |ret=>simp at b;obtain⟨rfl,rfl⟩:=b;exact⟨v1,rfl,d⟩
theorem Rel.getB{k:Nat}(h:Rel A0 T F p k sx sv){x:VX}{b:Bool}(hx:aY sx.r x=some (ar b)):x.get sv.r=some (ar b):=by
 obtain⟨v,h1,a⟩:=h.get hx;simp only[AV.fit,DV.fit]at a;obtain⟨y,rfl,rfl⟩:=a;exact h1
end
theorem wM:∀{xs vs:List DV},DV.fits xs vs->DV.fits (xs.flatMap DV.cells) (vs.flatMap DV.cells)/\DV.owns (xs.flatMap DV.cells) (vs.flatMap DV.cells)=DV.owns xs vs
 | [],vs,h=>by simp only[DV.fits]at h;subst h;simp[DV.fits,DV.owns]
 |x::xs,vs,h=>by
  simp only[DV.fits]at h;obtain⟨v,vs,rfl,h1,b⟩:=h;obtain⟨a,c⟩:=wM b;simp only[ei];exact⟨DV.qaU (DV.qa2 h1) a,by rw[DV.qaR (DV.qan (DV.qa2 h1)),DV.qdo h1,c];simp only[DV.owns]⟩
theorem VJ{c c' r a:DV}(h1:c.fit c')(b:r.fit a):c'.like a=c.like r:=by
 have sh:∀{x v:DV},x.fit v->(∃g g' xs ys,x= .sl g xs/\v= .sl g' ys)\/(∃xs ys,x= .agg xs/\v= .agg ys)\/(∃xs ys,x= .tup xs/\v= .tup ys)\/v=x:=by
  intro x v h;cases x<;>simp only[DV.fit]at h
  case sl g xs=>obtain⟨g',ys,rfl,_⟩:=h;exact .inl ⟨_,_,_,_,rfl,rfl⟩
  case agg xs=>obtain⟨ys,rfl,_⟩:=h;exact .inr (.inl ⟨_,_,rfl,rfl⟩)
  case tup xs=>obtain⟨ys,rfl,_⟩:=h;exact .inr (.inr (.inl ⟨_,_,rfl,rfl⟩))
  all_goals exact .inr (.inr (.inr h))
 rcases sh h1 with⟨_,_,_,_,rfl,rfl⟩|⟨_,_,rfl,rfl⟩|⟨_,_,rfl,rfl⟩|rfl<;>rcases sh b with⟨_,_,_,_,rfl,rfl⟩|⟨_,_,rfl,rfl⟩|⟨_,_,rfl,rfl⟩|rfl<;>
  first|rfl|(cases a<;>rfl)|(cases c'<;>rfl)|(cases c'<;>cases a<;>rfl)
theorem U8{rs q:List DV}(n:DV.fits rs q){xs vs:List DV}(h:DV.fits xs vs)(ha:xs.any (fun c=>rs.all fun r=> !c.like r)=true):vs.any (fun c=>q.all fun r=> !c.like r)=true:=by
 obtain⟨c,hc,d⟩:=Ea.1 ha;obtain⟨i,hi⟩:=c9.1 hc;obtain⟨c',l,s⟩:=DV.qb3 h hi;refine Ea.2 ⟨c',bU l,bu.2 fun t j=> ?_⟩;obtain⟨k,m⟩:=c9.1 j;have e:k<rs.length:=by rw[DV.qan n];exact(aK.1 m).1
 have b:rs[k]?=some rs[k]:=by simp[e]
 obtain⟨u,a,g⟩:=DV.qb3 n b;rw[m]at a;simp only[aB]at a;subst a
 rw[VJ s g];exact bu.1 d _ (bU b)
mutual
theorem Ig{A:Ids}{a:Id}{rs m:List DV}(e:DV.fits rs m):∀(x v:DV),x.fit v->x.xrest rs=true->(∀b,b∈x.own v->A b=true/\b≠a)->v.rest A a m=true
 | .int k n,v,h,_,_=>by simp only[DV.fit]at h;subst h;simp only[DV.rest]
 | .bool b,v,h,_,_=>by simp only[DV.fit]at h;subst h;simp only[DV.rest]
 | .str s,v,h,_,_=>by simp only[DV.fit]at h;subst h;simp only[DV.rest]
 | .agg cs,v,h,hx,c=>by
  simp only[DV.fit]at h;obtain⟨ds,rfl,h1⟩:=h;simp only[DV.xrest]at hx;simp only[DV.rest];exact nE e cs ds h1 hx (by simpa only[DV.own]using c)
 | .tup cs,v,h,hx,c=>by
  simp only[DV.fit]at h;obtain⟨ds,rfl,h1⟩:=h;simp only[DV.xrest]at hx;simp only[DV.rest];exact nE e cs ds h1 hx (by simpa only[DV.own]using c)
 | .sl g xs,v,h,hx,c=>by
  simp only[DV.fit]at h;obtain⟨g',ys,rfl,h1,q⟩:=h;simp only[DV.xrest,aF,ci,ba]at hx;obtain⟨d,u⟩:=hx;simp only[DV.own]at c;simp only[DV.rest,aF,ci];refine⟨?_,nE e xs ys h1 u fun b hb=>c b (mF _ hb)⟩;rcases d with(d|d)|d
  ·left;left
   have:xs=[]:=by simpa using d
   subst this;simp only[DV.fits]at h1;subst h1;rfl
  ·exact .inl (.inr (U8 e (wM h1).1 d))
  ·subst d
   rcases q with l|⟨_,l⟩
   ·exact absurd l (by decide)
   ·rcases l with⟨j,_⟩|⟨j,b,sz,rfl,_⟩
    ·left;left
     have:xs=[]:=kp.1 j;subst this;simp only[DV.fits]at h1;subst h1;rfl
    ·right
     obtain⟨r,t⟩:=c b (kj _ (by rw[ap ⟨rfl,j⟩];simp[Tag.ids]));simp[r,t]
theorem nE{A:Ids}{a:Id}{rs d:List DV}(e:DV.fits rs d):∀(xs vs:List DV),DV.fits xs vs->DV.xrests rs xs=true->(∀b,b∈DV.owns xs vs->A b=true/\b≠a)->DV.rests A a d vs=true
 | [],vs,h,_,_=>by simp only[DV.fits]at h;subst h;simp only[DV.rests]
 |x::xs,vs,h,hx,c=>by
  simp only[DV.fits]at h;obtain⟨v,vs,rfl,h1,g⟩:=h;simp only[DV.xrests,aF]at hx;simp only[DV.owns]at c;simp only[DV.rests,aF];exact⟨Ig e x v h1 hx.1 fun b hb=>c b (kj _ hb),nE e xs vs g hx.2 fun b hb=>c b (mF _ hb)⟩
end
theorem E8{A:Ids}{a:Id}{rs e:List DV}(j:DV.fits rs e)(x v:AV)(h:x.fit v)(hx:x.xrest rs=true)(g:∀b,b∈x.own v->A b=true/\b≠a):v.rest A a e=true:=by
 cases x with
 |d x=>
  simp only[AV.fit]at h;obtain⟨y,rfl,h1⟩:=h;exact Ig j x y h1 hx g
 |ptr i o=>simp only[AV.fit]at h;subst h;rfl
 |nilp=>simp only[AV.fit]at h;subst h;rfl
 |bsl id ag i sz n=>simp only[AV.fit]at h;obtain⟨_,rfl⟩:=h;rfl
 |tsl ag i sz n=>simp only[AV.fit]at h;subst h;rfl
 |und=>simp only[AV.fit]at h;subst h;rfl
 |fn f cap=>
  cases cap with
  |nil=>
   simp only[AV.fit,AV.fits]at h;obtain⟨_,rfl,rfl,_⟩:=h;rfl
  |cons c r=>simp[AV.xrest]at hx
 |ep cs=>simp[AV.xrest]at hx
 |ag t cs=>simp[AV.xrest]at hx
theorem HY{A:Ids}{a:Id}{rs d:List DV}(e:DV.fits rs d):∀(xs vs:List AV),AV.fits xs vs->xs.all (AV.xrest rs)=true->(∀b,b∈AV.owns xs vs->A b=true/\b≠a)->vs.all (AV.rest A a d)=true
 | [],vs,h,_,_=>by simp only[AV.fits]at h;subst h;rfl
 |x::xs,vs,h,hx,c=>by
  simp only[AV.fits]at h;obtain⟨v,vs,rfl,h1,g⟩:=h;simp only[fM,aF]at hx⊢
  simp only[AV.owns]at c;exact⟨E8 e x v h1 hx.1 fun b hb=>c b (kj _ hb),HY e xs vs g hx.2 fun b hb=>c b (mF _ hb)⟩
theorem F0{B Bv:ah}(h:qbb B Bv)(L:Nat):qbb (cC L B) (cC L Bv):=by
 refine⟨by simp[cC,h.1],fun i=> ?_⟩;unfold cC
 by_cases hi:i<L
 ·rw[bY (by simpa using hi),bY (by simpa using hi)]
  simp[hi]
 ·rw[cj (by simp;omega),cj (by simp;omega)]
  simp only[Cv,gk];exact h.2 _
theorem Zv{F Fu:Id->Prop}{A A':Ids}{own b:Loc->List Id}(h:Held F Fu A own)(φ:Loc->Loc)(c:∀ℓ,(b ℓ).Sublist (own (φ ℓ)))(hφ:∀ℓ ℓ',b ℓ≠[]->b ℓ'≠[]->φ ℓ=φ ℓ'->ℓ=ℓ')
 (g:∀x,A x=true->(F x\/∃ℓ,x∈b ℓ)->A' x=true):Held F Fu A' b:=by
 refine⟨fun ℓ=>(h.nodup _).sublist (c ℓ),fun ℓ ℓ' a ha d=> ?_,fun ℓ a ha=> ?_,fun a ha=> ?_⟩
 ·exact hφ ℓ ℓ' (fun he=>by rw[he]at ha;simp at ha) (fun he=>by rw[he]at d;simp at d) (h.apart _ _ a ((c ℓ).subset ha) ((c ℓ').subset d))
 ·obtain⟨h1,e,j⟩:=h.opn _ a ((c ℓ).subset ha)
  exact⟨g a h1 (.inr ⟨ℓ,ha⟩),e,j⟩
 ·obtain⟨h1,e⟩:=h.fr a ha
  exact⟨g a h1 (.inl ha),e⟩
section
variable {A0:Ids} {T:List Nat} {F:Id->Prop} {p:Id} {sx sx':XS} {sv:St}
theorem sZ{k:Nat}(h:Rel A0 T F p k sx sv){a:Id}{rs l:List DV}(e:DV.fits rs l):∀(live:List Nat),jb rs (keep sx.r live)=true->(∀t,t∈live->∀b,b∈a8 sx.r sv.r t->sv.A b=true/\b≠a)->tN sv.A a l (keep sv.r live)=true
 | [],_,_=>rfl
 |t::ts,hx,d=>by
  simp only[Go.Proofs.YtpcoohnjllclnaaGreat.VS.keep]at hx⊢
  cases ht:lk sx.r t with
  |none=>
   rw[ht]at hx;rw[h.no t ht];exact sZ h e ts hx fun g c=>d g (dH _ c)
  |some x=>
   obtain⟨v,j,m⟩:=h.regs t x ht;rw[ht]at hx;rw[j];simp only[jb,tN,fM,aF]at hx⊢
   refine⟨E8 e x v m hx.1 fun b hb=>d t (by simp) b (by unfold a8;rw[ht,j];exact hb),sZ h e ts hx.2 fun g c=>d g (dH _ c)⟩
theorem Fj{B Bv:ah}{A:Ids}{a:Id}{rs g:List DV}(r:DV.fits rs g)(hb:qbb B Bv)(hx:eG rs B=true)(h:∀j b,b∈aW B Bv j->A b=true/\b≠a):vv A a g Bv=true:=by
 refine bu.2 fun q d=> ?_
 obtain⟨i,hi⟩:=c9.1 d;cases q with
 |none=>rfl
 |some ds=>
  have e:i<B.length:=by rw[hb.1];exact(aK.1 hi).1
  have c:B[i]?=some B[i]:=by simp[e]
  cases d:B[i]with
  |none=>
   rw[d]at c;have:=(hb.2 i).1 c;rw[hi]at this;simp at this
  |some cs=>
   rw[d]at c;obtain⟨l,h1,m⟩:=(hb.2 i).2 cs c;rw[hi]at h1;simp only[aB]at h1;subst h1
   have n:=bu.1 hx _ (bU c);refine HY r cs ds m n fun b hb=>h i b ?_
   unfold aW aI;rw[c,hi];exact hb
theorem Km{xs vs:List DV}{x v:DV}{g':Tag}(h:(DV.sl U (x::xs)).fit (.sl g' (v::vs))):∃a sz,g'= .own a sz/\x.cells.length=sz/\bJ v=bJ x/\vs.length=xs.length/\
 (DV.sl U (x::xs)).own (.sl g' (v::vs))=a::DV.owns (x::xs) (v::vs)/\DV.fits (x::xs) (v::vs):=by
 simp only[DV.fit]at h;obtain⟨g2,ys,he,h1,g⟩:=h;simp only[DV.sl.injEq]at he;obtain⟨rfl,rfl⟩:=he;rcases g with d|⟨_,d⟩
 ·exact absurd d (by decide)
 ·rcases d with⟨c,_⟩|⟨c,a,sz,rfl,j⟩
  ·simp at c
  ·have b:=h1
   simp only[DV.fits]at h1;obtain⟨w,ws,he,e,l⟩:=h1;simp only[List.cons.injEq]at he;obtain⟨rfl,rfl⟩:=he;refine⟨a,sz,rfl,by rw[<-DV.qby e];exact j v (by simp),qDn e,(DV.qan l).symm,?_,b⟩;simp only[DV.own];rw[ap ⟨trivial,c⟩];rfl
theorem QY{t:Nat}{live:List Nat}(h:Rel A0 T F p sv.c sx sv)(hx:fp (.focR t live) sx=some sx'):∃z,gE (.focR t live) sv=some z/\Rel A0 T F p z.c sx' z:=by
 simp only[fp]at hx;split at hx
 ·rename_i x xs hl
  split at hx
  ·rename_i hc
   obtain⟨Z,h1,h2,h3⟩:=hc;simp only[aB]at hx;subst hx
   obtain⟨v0,hv,K⟩:=h.regs t _ hl;simp only[AV.fit]at K;obtain⟨y0,rfl,K⟩:=K;have H:=K;simp only[DV.fit]at H;obtain⟨g',h4,rfl,u,_⟩:=H;simp only[DV.fits]at u;obtain⟨y,ys,rfl,_,_⟩:=u;obtain⟨a,sz,rfl,hsz,W,hlen,J,u⟩:=Km K;obtain⟨O,r2⟩:=wM u;have q:a8 sx.r sv.r t=a::DV.owns (x::xs) (y::ys):=by unfold a8;rw[hl,hv];exact J
   have G:a∈ay sx.r sx.B sv.r sv.B (.reg t):=by simp only[ay,q];simp
   obtain⟨ha,Q,h5⟩:=h.held.opn _ a G;have s:∀ℓ,ℓ≠.reg t->∀b,b∈ay sx.r sx.B sv.r sv.B ℓ->sv.A b=true/\b≠a:=fun ℓ hℓ b hb=>⟨(h.held.opn ℓ b hb).1,fun he=>by subst he;exact hℓ (h.held.apart _ _ _ hb G)⟩
   have M:=h.held.nodup (.reg t);simp only[ay,q,iZ]at M;have D:∀b,b∈DV.owns (x::xs) (y::ys)->sv.A b=true/\b≠a:=fun b hb=>⟨(h.held.opn (.reg t) b (by simp only[ay,q];simp[hb])).1,fun he=>M.1 (by rw[<-he];exact hb)⟩
   have S:t∉live:=by simpa using Z
   have c1:=sZ h O live h1 (a:=a) fun g m b hb=>s (.reg g) (fun he=>by simp at he;subst he;exact S m) b hb
   have c2:=Fj (A:=sv.A) (a:=a) O h.boxes h2 fun j b hb=>s (.box j) (by simp) b hb
   have c3:=nE (A:=sv.A) (a:=a) O _ _ O h3 (by rw[r2];exact D);refine⟨_,by simp only[gE,hv];rw[ap ⟨ha,Z,c1,c2,c3⟩],?_⟩;rw[W,hlen,<-hsz,<-h.boxes.1];have P:=h.keep live;have R:qbb (sx.B++[some (((x::xs).flatMap DV.cells).map .d)]) (sv.B++[some (((y::ys).flatMap DV.cells).map .d)]):=by
    refine⟨by simp[h.boxes.1],fun i=> ?_⟩
    by_cases hi:i<sx.B.length
    ·rw[bY hi,bY (by rw[<-h.boxes.1];exact hi)];exact h.boxes.2 i
    ·rw[cj (by omega),cj (by rw[<-h.boxes.1];omega),h.boxes.1]
     rw[h.boxes.1]at hi
     by_cases Y:i-sv.B.length=0
     ·rw[Y]
      exact⟨by simp,fun cs hcs=>⟨_,rfl,by simp only[d9,aB]at hcs;subst hcs;exact AV.qip O⟩⟩
     ·rw[f8 (by simp;omega)];simp
   have N:∀j,j<sx.B.length->aW (sx.B++[some (((x::xs).flatMap DV.cells).map .d)]) (sv.B++[some (((y::ys).flatMap DV.cells).map .d)]) j=aW sx.B sv.B j:=fun j hj=>by
    unfold aW aI;rw[bY hj,bY (by rw[<-h.boxes.1];exact hj)]
   have w:aW (sx.B++[some (((x::xs).flatMap DV.cells).map .d)]) (sv.B++[some (((y::ys).flatMap DV.cells).map .d)]) sx.B.length=DV.owns (x::xs) (y::ys):=by
    unfold aW aI;rw[cj (aU _),cj (by rw[h.boxes.1];exact aU _),h.boxes.1];simp only[mq,d9];rw[AV.qin,r2]
   have hbig:∀j,sx.B.length<j->aW (sx.B++[some (((x::xs).flatMap DV.cells).map .d)]) (sv.B++[some (((y::ys).flatMap DV.cells).map .d)]) j=[]:=fun j hj=>by
    unfold aW aI;rw[f8 (by simp;omega)]
   have l:∀g,a8 ((t,.tsl (bJ x) sx.B.length x.cells.length (xs.length+1))::Go.Proofs.YtpcoohnjllclnaaGreat.VS.keep sx.r live) ((t,.tsl (bJ x) sx.B.length x.cells.length (xs.length+1))::Go.Proofs.YtpcoohnjllclnaaGreat.VS.keep sv.r live) g=if g=t then []else a8 (Go.Proofs.YtpcoohnjllclnaaGreat.VS.keep sx.r live) (Go.Proofs.YtpcoohnjllclnaaGreat.VS.keep sv.r live) g:=fun g=>by
    unfold a8
    by_cases he:g=t
    ·simp[lk,he,AV.own]
    ·simp[lk,he]
   refine⟨fun g x' n=> ?_,R,Zv (F:=F) (A:=sv.A) h.held (fun ℓ=>match ℓ with| .reg g=> .reg g| .box j=>if j=sx.B.length then .reg t else .box j) (fun ℓ=> ?_) (fun ℓ ℓ' e1 e2 he=> ?_) (fun b hb e=> ?_),fun g m=> ?_,fun g m=> ?_,fun b hb=> ?_⟩
   ·simp only[lk]at n⊢
    split at n
    ·rename_i he;rw[ap he]
     simp only[aB]at n;subst n
     exact⟨_,rfl,by simp only[AV.fit]⟩
    ·rename_i he;rw[ak he];exact P.regs g x' n
   ·cases ℓ with
    |reg g=>
     simp only[ay,l];split
     ·exact jG _
     ·rw[re];split<;>simp
    |box j=>
     simp only[ay]
     by_cases hj:j=sx.B.length
     ·subst hj
      rw[w,ap rfl];simp only[q];exact Jn _ _
     ·simp only[ak hj]
      by_cases C:j<sx.B.length
      ·rw[N j C];exact bX _
      ·rw[hbig j (by omega)];exact jG _
   ·cases ℓ with
    |reg t1=>
     cases ℓ' with
     |reg t2=>simpa using he
     |box j=>
      simp only at he;split at he
      ·simp only[Loc.reg.injEq]at he
       subst he;simp only[ay,l,if_true]at e1;simp at e1
      ·simp at he
    |box j=>
     cases ℓ' with
     |reg t2=>
      simp only at he;split at he
      ·simp only[Loc.reg.injEq]at he
       subst he;simp only[ay,l,if_true]at e2;simp at e2
      ·simp at he
     |box j'=>
      simp only at he;split at he<;>split at he
      ·simp_all
      ·simp at he
      ·simp at he
      ·exact he
   ·simp only[Ids.del,hb,mp,fi,j9]
    rcases e with e|⟨ℓ,e⟩
    ·exact fun he=>by subst he;exact Q e
    ·cases ℓ with
     |reg g=>
      simp only[ay,l]at e;split at e
      ·simp at e
      ·rename_i I
       rw[re]at e;split at e
       ·exact(s (.reg g) (by simpa using I) b e).2
       ·simp at e
     |box j=>
      simp only[ay]at e
      by_cases hj:j=sx.B.length
      ·subst hj;rw[w]at e;exact(D b e).2
      ·by_cases C:j<sx.B.length
       ·rw[N j C]at e;exact(s (.box j) (by simp) b e).2
       ·rw[hbig j (by omega)]at e;simp at e
   ·show a8 _ _ g=[]
    rw[l];split
    ·rfl
    ·exact P.nl g m
   ·simp only[lk]at m⊢
    split at m
    ·simp at m
    ·rename_i he;rw[ak he];exact P.no g m
   ·simp only[Ids.del,aF]at hb
    exact h.am b hb.2
  ·simp at hx
 ·simp at hx
theorem SU{t off:Nat}{live:List Nat}(h:Rel A0 T F p sv.c sx sv)(hx:fp (.focC t off live) sx=some sx'):∃Z,gE (.focC t off live) sv=some Z/\Rel A0 T F p Z.c sx' Z:=by
 simp only[fp]at hx;split at hx
 ·rename_i j o hl
  obtain⟨cs,hcs,hx⟩:=aw.1 hx;split at hx
  ·rename_i x xs n
   split at hx
   ·rename_i hc
    obtain⟨K,h1,h2,h3⟩:=hc;simp only[aB]at hx;subst hx
    have hlv:=h.getR hl;obtain⟨ds,a2,x1⟩:=h.boxes.get hcs;obtain⟨v0,m,hf⟩:=AV.qb3 x1 n;simp only[AV.fit]at hf;obtain⟨y0,rfl,hf⟩:=hf;have b1:=hf;simp only[DV.fit]at b1;obtain⟨g',ys0,rfl,O,_⟩:=b1;simp only[DV.fits]at O;obtain⟨y,ys,rfl,_,_⟩:=O;obtain⟨a,sz,rfl,hsz,hag,hlen,hown,O⟩:=Km hf;obtain⟨r1,r2⟩:=wM O;have N:o+off<cs.length:=(aK.1 n).1;have s:=AV.qan x1;have S:j+1<sx.B.length:=(aK.1 (iH.1 hcs)).1;have D:aW sx.B sv.B (j+1)=AV.owns cs ds:=by unfold aW;rw[hcs,a2]
    have e:AV.owns cs ds=AV.owns (cs.take (o+off)) (ds.take (o+off))++((a::DV.owns (x::xs) (y::ys))++AV.owns (cs.drop (o+off+1)) (ds.drop (o+off+1))):=by
     rw[AV.qbN s (o+off),AV.qbN (a:=cs.drop (o+off)) (c:=ds.drop (o+off)) (by simp[s]) 1,kJ,kJ]
     congr 2
     have Q:(cs.drop (o+off)).take 1=[.d (.sl U (x::xs))]:=by
      rw[cW N];have:cs[o+off]= .d (.sl U (x::xs)):=by rw[eh N]at n;exact sE n
      simp[this]
     have P:(ds.drop (o+off)).take 1=[.d (.sl (.own a sz) (y::ys))]:=by
      have hkv:o+off<ds.length:=by omega
      rw[cW hkv];have:ds[o+off]= .d (.sl (.own a sz) (y::ys)):=by rw[eh hkv]at m;exact sE m
      simp[this]
     rw[Q,P];simp only[AV.owns,AV.own,hown,dq]
    have W:AV.fits (cs.set (o+off) (.tsl (bJ x) j x.cells.length (xs.length+1))) (ds.set (o+off) (.tsl (bJ y) j sz (ys.length+1))):=by
     rw[hag,hlen,<-hsz];refine(AV.qbg _ _).2 ⟨by simp[s],fun i q q' h4 h5=> ?_⟩
     by_cases hi:i=o+off
     ·subst hi
      rw[hI N]at h4;rw[hI (by omega)]at h5;simp only[aB]at h4 h5;subst h4;subst h5
      simp only[AV.fit]
     ·rw[dh (Ne.symm hi)]at h4 h5
      exact((AV.qbg _ _).1 x1).2 i q q' h4 h5
    have Y:AV.owns (cs.set (o+off) (.tsl (bJ x) j x.cells.length (xs.length+1))) (ds.set (o+off) (.tsl (bJ y) j sz (ys.length+1)))=AV.owns (cs.take (o+off)) (ds.take (o+off))++AV.owns (cs.drop (o+off+1)) (ds.drop (o+off+1)):=by
     have Q:cs.set (o+off) (.tsl (bJ x) j x.cells.length (xs.length+1))=cs.take (o+off)++(.tsl (bJ x) j x.cells.length (xs.length+1)::cs.drop (o+off+1)):=by rw[rZ,ap N]
     have P:ds.set (o+off) (.tsl (bJ y) j sz (ys.length+1))=ds.take (o+off)++(.tsl (bJ y) j sz (ys.length+1)::ds.drop (o+off+1)):=by rw[rZ,ap (by omega)]
     rw[Q,P,AV.qaR (by simp[s])];simp[AV.owns,AV.own]
    have a1:a∈ay sx.r sx.B sv.r sv.B (.box (j+1)):=by simp only[ay,D,e];simp
    obtain⟨ha,hFa,hFu⟩:=h.held.opn _ a a1;have M:∀ℓ,ℓ≠.box (j+1)->∀b,b∈ay sx.r sx.B sv.r sv.B ℓ->sv.A b=true/\b≠a:=fun ℓ hℓ b hb=>⟨(h.held.opn ℓ b hb).1,fun he=>by subst he;exact hℓ (h.held.apart _ _ _ hb a1)⟩
    have z:=h.held.nodup (.box (j+1));simp only[ay,D,e]at z;have R:∀b,b∈AV.owns cs ds->sv.A b=true:=fun b hb=>(h.held.opn (.box (j+1)) b (by simp only[ay,D];exact hb)).1
    have x3:∀b,b∈DV.owns (x::xs) (y::ys)->sv.A b=true/\b≠a:=fun b hb=>⟨R b (by rw[e];simp[hb]),fun he=>by
     rw[co,cP,iZ]at z;exact z.2.1.1 (by rw[<-he];simp[hb])⟩
    have I:∀b,b∈AV.owns (cs.take (o+off)) (ds.take (o+off))++AV.owns (cs.drop (o+off+1)) (ds.drop (o+off+1))->sv.A b=true/\b≠a:=fun b hb=>⟨R b (by rw[e];simp only[bl,br]at hb⊢;rcases hb with hb|hb<;>simp[hb]),fun he=>by
     subst he;rw[co,cP,iZ]at z;rcases bl.1 hb with hb|hb
     ·exact z.2.2 b hb b (by simp) rfl
     ·exact z.2.1.1 (by simp[hb])⟩
    have G:qbb (sx.B.set (j+1) (some (cs.set (o+off) (.tsl (bJ x) j x.cells.length (xs.length+1))))) (sv.B.set (j+1) (some (ds.set (o+off) (.tsl (bJ y) j sz (ys.length+1))))):=h.boxes.set (j+1) W;have H:∀i,i≠j+1->aW (sx.B.set (j+1) (some (cs.set (o+off) (.tsl (bJ x) j x.cells.length (xs.length+1))))) (sv.B.set (j+1) (some (ds.set (o+off) (.tsl (bJ y) j sz (ys.length+1))))) i=aW sx.B sv.B i:=fun i hi=>sW (Ne.symm hi)
    have u:aW (sx.B.set (j+1) (some (cs.set (o+off) (.tsl (bJ x) j x.cells.length (xs.length+1))))) (sv.B.set (j+1) (some (ds.set (o+off) (.tsl (bJ y) j sz (ys.length+1))))) (j+1)=AV.owns (cs.take (o+off)) (ds.take (o+off))++AV.owns (cs.drop (o+off+1)) (ds.drop (o+off+1)):=by
     rw[uI S (by rw[<-h.boxes.1];exact S),Y]
    have c1:=sZ h r1 live h1 (a:=a) fun t' ht' b hb=>M (.reg t') (by simp) b hb
    have c2:=Fj (A:=sv.A) (a:=a) r1 G h2 fun i b hb=>by
     by_cases hi:i=j+1
     ·subst hi;rw[u]at hb;exact I b hb
     ·rw[H i hi]at hb;exact M (.box i) (by simpa using hi) b hb
    have c3:=nE (A:=sv.A) (a:=a) r1 _ _ r1 h3 (by rw[r2];exact x3);refine⟨_,by simp only[gE,hlv,a2,aQ,m];rw[ap ⟨ha,by rw[h.boxes.free];exact K,c1,c2,c3⟩],?_⟩;have hk:=h.keep live;have hjB:j<(sx.B.set (j+1) (some (cs.set (o+off) (.tsl (bJ x) j x.cells.length (xs.length+1))))).length:=by rw[kr];omega
    have b2:j<(sv.B.set (j+1) (some (ds.set (o+off) (.tsl (bJ y) j sz (ys.length+1))))).length:=by rw[kr,<-h.boxes.1];omega
    have C:aW ((sx.B.set (j+1) (some (cs.set (o+off) (.tsl (bJ x) j x.cells.length (xs.length+1))))).set j (some (((x::xs).flatMap DV.cells).map .d))) ((sv.B.set (j+1) (some (ds.set (o+off) (.tsl (bJ y) j sz (ys.length+1))))).set j (some (((y::ys).flatMap DV.cells).map .d))) j=DV.owns (x::xs) (y::ys):=by
     rw[uI hjB b2,AV.qin,r2]
    have J:∀i,i≠j->aW ((sx.B.set (j+1) (some (cs.set (o+off) (.tsl (bJ x) j x.cells.length (xs.length+1))))).set j (some (((x::xs).flatMap DV.cells).map .d))) ((sv.B.set (j+1) (some (ds.set (o+off) (.tsl (bJ y) j sz (ys.length+1))))).set j (some (((y::ys).flatMap DV.cells).map .d))) i=aW (sx.B.set (j+1) (some (cs.set (o+off) (.tsl (bJ x) j x.cells.length (xs.length+1))))) (sv.B.set (j+1) (some (ds.set (o+off) (.tsl (bJ y) j sz (ys.length+1))))) i:=fun i hi=>sW (Ne.symm hi)
    have hfreeo:aW sx.B sv.B j=[]:=by
     unfold aW aI;unfold ct at K;split at K
     ·rename_i hq;rw[hq]
     ·simp at K
    have w:∀ℓ,(ay (Go.Proofs.YtpcoohnjllclnaaGreat.VS.keep sx.r live) ((sx.B.set (j+1) (some (cs.set (o+off) (.tsl (bJ x) j x.cells.length (xs.length+1))))).set j (some (((x::xs).flatMap DV.cells).map .d))) (Go.Proofs.YtpcoohnjllclnaaGreat.VS.keep sv.r live) ((sv.B.set (j+1) (some (ds.set (o+off) (.tsl (bJ y) j sz (ys.length+1))))).set j (some (((y::ys).flatMap DV.cells).map .d))) ℓ).Sublist (ay sx.r sx.B sv.r sv.B (if ℓ= .box j then .box (j+1)else ℓ))/\
     ∀b,b∈ay (Go.Proofs.YtpcoohnjllclnaaGreat.VS.keep sx.r live) ((sx.B.set (j+1) (some (cs.set (o+off) (.tsl (bJ x) j x.cells.length (xs.length+1))))).set j (some (((x::xs).flatMap DV.cells).map .d))) (Go.Proofs.YtpcoohnjllclnaaGreat.VS.keep sv.r live) ((sv.B.set (j+1) (some (ds.set (o+off) (.tsl (bJ y) j sz (ys.length+1))))).set j (some (((y::ys).flatMap DV.cells).map .d))) ℓ->b≠a:=by
     intro ℓ;cases ℓ with
     |reg t'=>
      simp only[ay,re,ak (show¬(Loc.reg t'=Loc.box j)by simp)];split
      ·exact⟨bX _,fun b hb=>(M (.reg t') (by simp) b hb).2⟩
      ·exact⟨jG _,fun b hb=>by simp at hb⟩
     |box i=>
      by_cases hi:i=j
      ·subst hi
       simp only[ay,C,if_true,D,e];exact⟨((n_ _ _).trans (Jn _ _)).trans (gi _ _),fun b hb=>(x3 b hb).2⟩
      ·simp only[ay,J i hi,ak (show¬(Loc.box i=Loc.box j)by simpa using hi)]
       by_cases x2:i=j+1
       ·subst x2
        rw[u,D,e];exact⟨gw (bX _) (gi _ _),fun b hb=>(I b hb).2⟩
       ·rw[H i x2]
        exact⟨bX _,fun b hb=>(M (.box i) (by simpa using x2) b hb).2⟩
    refine⟨hk.regs,(G.set j (AV.qip r1)),?_,hk.nl,hk.no,fun b hb=> ?_⟩
    ·
     have l:=z;refine⟨fun ℓ=>(h.held.nodup _).sublist (w ℓ).1,fun ℓ ℓ' b hb g=> ?_,fun ℓ b hb=> ?_,fun b hb=> ?_⟩
     ·have q:=h.held.apart _ _ b ((w ℓ).1.subset hb) ((w ℓ').1.subset g)
      by_cases Q:ℓ= .box j<;>by_cases P:ℓ'= .box j
      ·rw[Q,P]
      ·rw[ap Q,ak P]at q
       exfalso;subst Q;subst q
       simp only[ay,C]at hb;simp only[ay]at g;rw[J _ (by omega),u]at g;rw[co,cP,iZ,co]at l;rcases bl.1 g with g|g
       ·exact l.2.2 b g b (by simp[hb]) rfl
       ·exact l.2.1.2.2.2 b hb b g rfl
      ·rw[ak Q,ap P]at q
       exfalso;subst P;subst q
       simp only[ay,C]at g;simp only[ay]at hb;rw[J _ (by omega),u]at hb;rw[co,cP,iZ,co]at l;rcases bl.1 hb with hb|hb
       ·exact l.2.2 b hb b (by simp[g]) rfl
       ·exact l.2.1.2.2.2 b g b hb rfl
      ·rw[ak Q,ak P]at q;exact q
     ·obtain⟨q1,q2,q3⟩:=h.held.opn _ b ((w ℓ).1.subset hb)
      exact⟨by simp[Ids.del,q1,(w ℓ).2 b hb],q2,q3⟩
     ·obtain⟨q1,q2⟩:=h.held.fr b hb
      exact⟨by simp only[Ids.del,q1,mp,fi,j9];exact fun he=>by subst he;exact hFa hb,q2⟩
    ·simp only[Ids.del,aF]at hb
     exact h.am b hb.2
   ·simp at hx
  ·simp at hx
 ·simp at hx
theorem FK{k:Nat}(h:Rel A0 T F p k sx sv){t:Nat}{x v:AV}(g:x.fit v)(l:x.own v=[]):Rel A0 T F p k ⟨(t,x)::sx.r,sx.B⟩ {sv with r:=(t,v)::sv.r}:=by
 have e:∀c,a8 ((t,x)::sx.r) ((t,v)::sv.r) c=if c=t then []else a8 sx.r sv.r c:=fun c=>by
  unfold a8
  by_cases he:c=t
  ·simp[lk,he,l]
  ·simp[lk,he]
 refine⟨fun c x' d=> ?_,h.boxes,h.held.shrink (fun ℓ=> ?_) (fun a ha _=>ha) (fun _ g=>g),fun c b=> ?_,fun c b=> ?_,h.am⟩
 ·simp only[lk]at d⊢
  split at d
  ·rename_i he;rw[ap he]
   simp only[aB]at d;subst d
   exact⟨_,rfl,g⟩
  ·rename_i he;rw[ak he];exact h.regs c x' d
 ·cases ℓ with
  |reg c=>
   simp only[ay,e];split
   ·exact jG _
   ·exact bX _
  |box j=>exact bX _
 ·show a8 _ _ c=[]
  rw[e];split
  ·rfl
  ·exact h.nl c b
 ·simp only[lk]at b⊢
  split at b
  ·simp at b
  ·rename_i he;rw[ak he];exact h.no c b
theorem MI{x:Gho}(h:Rel A0 T F p sv.c sx sv)(hx:fp x sx=some sx'):∃b,gE x sv=some b/\Rel A0 T F p b.c sx' b:=by
 cases x with
 |focR t live=>exact QY h hx
 |focC t off live=>exact SU h hx
 |frzR t L live=>
  simp only[fp]at hx;split at hx
  ·rename_i v m
   split at hx
   ·rename_i hc
    obtain⟨h1,w,H⟩:=hc;obtain⟨d,hd,rfl⟩:=au.1 hx;obtain⟨u,J,I⟩:=h.regs t _ m;obtain⟨M,n,y⟩:=U5 (F0 h.boxes L) v u d I hd;refine⟨_,by simp only[gE,J];rw[ap ⟨h1,rP h L live w,by rw[<-h.boxes.1];exact H⟩,n];rfl,?_⟩;have s:=(h.keep live).cut L;exact FK (sx:=⟨keep sx.r live,sx.B.take L⟩) (sv:={sv with r:=Go.Proofs.YtpcoohnjllclnaaGreat.VS.keep sv.r live,B:=sv.B.take L}) s (by simp only[AV.fit];exact⟨_,rfl,DV.qcK _ _ y⟩) (by simp only[AV.own,DV.qbC])
   ·simp at hx
  ·simp at hx
 |frzB t L live=>
  simp only[fp]at hx;split at hx
  ·rename_i i m
   split at hx
   ·rename_i hc
    obtain⟨K,h1,w,H⟩:=hc;obtain⟨cs,hcs,hx⟩:=aw.1 hx;obtain⟨ds,G,hx⟩:=aw.1 hx;split at hx
    ·rename_i g
     simp only[aB]at hx;subst hx
     obtain⟨D,e,C⟩:=h.boxes.get hcs;obtain⟨es,l,j⟩:=yg (xe (F0 h.boxes L) _) cs D ds C G;rw[h.boxes.1]at l;refine⟨_,by simp only[gE,h.getR m];rw[ap ⟨K,h1,rP h L live w,by rw[<-h.boxes.1];exact H⟩,e,aQ,l,aQ,DV.qbt j,ap g],?_⟩;have s:=(h.keep live).cut L;have a:AV.fits (ds.map fun d=>AV.d d.clr) (es.map .d):=by
      have:=AV.qip (DV.qbh _ _ j);rw[DV.qax,eN]at this;exact this
     have q:AV.owns (ds.map fun d=>AV.d d.clr) (es.map .d)=[]:=by
      have:ds.map (fun d=>AV.d d.clr)=(DV.clrs ds).map .d:=by rw[DV.qax,eN];rfl
      rw[this,AV.qin,DV.qdW]
     have z:=s.app (Bs:=[some (ds.map fun d=>AV.d d.clr)]) (Bvs:=[some (es.map .d)]) (BF.one a q);exact FK (x:= .ptr L 0) (v:= .ptr L 0) z (by simp only[AV.fit]) (by simp[AV.own])
    ·simp at hx
   ·simp at hx
  ·simp at hx
end
section
variable {A0:Ids} {T:List Nat} {F:Id->Prop} {p:Id} {sx sx':XS} {sv:St} {X:bM} {V:aZ} {lin:Nat->List Nat} {draw:Bool} {L0 i:Nat}
theorem Rel.over{k:Nat}(h:Rel A0 T F p k sx sv)(d:Nat){sx1:XS}(ℓ0:Loc)
 (e:∀t x,lk sx1.r t=some x->∃v,lk sv.r t=some v/\x.fit v) (l:qbb sx1.B sv.B)
 (b:∀ℓ,(ay sx1.r sx1.B sv.r sv.B ℓ).Sublist (ay sx.r sx.B sv.r sv.B ℓ)) (s:∀t,lk sx1.r t=none->lk sx.r t=none)
 {a v:AV} (g:a.fit v) (n:(a.own v).Nodup) (m:∀j,j∈a.own v->j∈ay sx.r sx.B sv.r sv.B ℓ0/\j∉ay sx1.r sx1.B sv.r sv.B ℓ0) {k':Nat} (w:k<=k') (c':Nat):
 Rel A0 T F p k' (aS T sx1 (some d) a) {(sv.put (some d) v)with c:=c'}:=by
 have C:Rel A0 T F p k sx1 sv:=by
  refine⟨e,l,h.held.shrink b (fun a ha _=>ha) (fun _ g=>g),fun t q=> ?_,fun t q=>h.no t (s t q),h.am⟩;have:=b (.reg t);simp only[ay]at this;rw[h.nl t q]at this;exact od.1 this
 refine C.put (some d) g w (fun _=>⟨n,fun j hj=> ?_⟩) (fun i hi _=>hi) (fun _ hi=> .inl hi) c';obtain⟨u,z⟩:=m j hj;obtain⟨y,G,D⟩:=h.held.opn ℓ0 j u;refine⟨y,G,fun g=>D (g.le w),fun ℓ _ hm=> ?_⟩;have:=h.held.apart ℓ0 ℓ j u ((b ℓ).subset hm);subst this;exact z hm
theorem rM(call:aZ)(p:Id)(draw:Bool)(L0:Nat):∀(a b:List VOper) (i:Nat) (s:St),cD call p draw L0 i (a++b) s=(cD call p draw L0 i a s).bind (cD call p draw L0 (i+a.length) b)
 | [],b,i,s=>by simp[cD]
 |o::a,b,i,s=>by
  simp only[cP,cD];split
  ·cases aP call p draw L0 i o s with
   |none=>rfl
   |some s1=>simp only[aQ];rw[rM call p draw L0 a b];rw[cB,BU,Nat.add_comm 1]
  ·rw[rM call p draw L0 a b];rw[cB,BU,Nat.add_comm 1]
  ·rfl
theorem MG{xs ys:List DV}(h:DV.fits xs ys)(l b:Nat):DV.fits (fy xs l b) ys:=by
 have e:ys=((ys.take b).take l++(ys.take b).drop l)++ys.drop b:=by rw[du,du]
 rw[e];unfold fy;exact DV.qaU (DV.qaU (DV.qbl (DV.qbl h b) l) (DV.qbh _ _ (DV.qbu (DV.qbl h b) l))) (DV.qbu h b)
theorem Kr{xs:List DV}(l b:Nat):(fy xs l b).length=xs.length:=by
 unfold fy;simp only[dz,DV.qcW];rw[<-dz,du,<-dz,du]
theorem G6{xs ys:List DV}(h:DV.fits xs ys)(l b:Nat):DV.owns (fy xs l b) ys=DV.owns ((xs.take b).take l) ((ys.take b).take l)++DV.owns (xs.drop b) (ys.drop b):=by
 have e:ys=((ys.take b).take l++(ys.take b).drop l)++ys.drop b:=by rw[du,du]
 conv=>lhs;rw[e]
 unfold fy;have h1:=DV.qbl (DV.qbl h b) l;have a:=DV.qbu (DV.qbl h b) l;rw[DV.qaR (by simp[DV.qan h1,DV.qan a,DV.qcW];omega),DV.qaR (DV.qan h1),DV.qdW,dq]
theorem CJ{xs ys:List DV}(h:DV.fits xs ys)(l b:Nat):DV.owns xs ys=DV.owns ((xs.take b).take l) ((ys.take b).take l)++(DV.owns ((xs.take b).drop l) ((ys.take b).drop l)++DV.owns (xs.drop b) (ys.drop b)):=by
 have d:=DV.qan h;rw[DV.qbN d b,DV.qbN (a:=xs.take b) (c:=ys.take b) (by simp[d]) l,b7]
def Ce(A0:Ids)(T:List Nat)(F:Id->Prop)(p:Id)(V:aZ)(draw:Bool)(L0 i:Nat)(f:FOper)(sv:St)(sx':XS):Prop:=
 ∃a,cD V p draw L0 i (f.pre++f.post) sv=some a/\Rel A0 T F p (sv.c+i+(f.pre++f.post).length) sx' a/\a.c=sv.c
theorem qOq{sz:Nat}{xs ys:List DV}(h:DV.fits xs ys)(hx:xs.all (fun e=>decide (e.cells.length=sz))=true):ys.all (fun e=>decide (e.cells.length=sz))=true:=Ju (DV.qbh _ _ h) hx
theorem V8(I:gr X V lin){d1 a d2:Nat}{b:VX}{d3 sz:Nat}{lo hi:Option VX}{f1 f2 f3:List Nat}(hl:(FOper.sl d1 a d2 b d3 sz lo hi f1 f2 f3).pre.all (VOper.linOK T)=true)(h:Rel A0 T F p (sv.c+i) sx sv){s1:XS}
 (h1:bd X lin T draw L0 (FOper.sl d1 a d2 b d3 sz lo hi f1 f2 f3).pre sx=some s1) (hx:gT T (.sl d1 a d2 b d3 sz lo hi f1 f2 f3) s1=some sx'):Ce A0 T F p V draw L0 i (.sl d1 a d2 b d3 sz lo hi f1 f2 f3) sv sx':=by
 obtain⟨sv1,M,z,c1⟩:=lr I hl h h1;simp only[gT]at hx;split at hx
 ·rename_i g xs h3 h2 N k2 Z
  split at hx
  ·rename_i hc
   obtain⟨⟨ha,h4,S,n2,n3⟩,D⟩:=hc;obtain⟨hh,Y,hx⟩:=aw.1 hx;obtain⟨ll,q2,hx⟩:=au.1 hx;subst hx;have y:lk sv1.r d1=lk sv1.r a:=by
    simp only[FOper.pre,cD,cJ,aP,aA]at M;obtain⟨t1,e2,e3⟩:=aw.1 M;obtain⟨va,O,rfl⟩:=au.1 e2;obtain⟨t2,e5,P⟩:=aw.1 e3;obtain⟨vb,e7,rfl⟩:=au.1 e5;simp only[aB]at P;subst P
    simp only[VX.get]at O;simp only[St.put,lk,ak n3,ak (Ne.symm S),ak (Ne.symm n2),if_true];exact O.symm
   obtain⟨w,J,Q⟩:=z.regs a _ N;have C:=Q;simp only[AV.fit,DV.fit]at C;obtain⟨_,rfl,g',ys,rfl,e,hg⟩:=C;have hlen:=DV.qan e;obtain⟨lv,m1,m2,m3⟩:=oG z.er k2;obtain⟨W,m4,m5,m6⟩:=oG z.er Z;have z1:en ys.length W=some hh:=by rw[<-hlen,An m5 m6];exact Y
   have R:em hh lv=some ll:=by rw[Bh m2 m3];exact q2
   have ev:cD V p draw L0 (i+2) [⟨some d3,.slice false sz (.t d1) lo hi,none,f3⟩] sv1=some (sv1.put (some d3) (.d (.sl (if g'= .nil then .nil else .sub) ((ys.take hh).drop ll)))):=by
    simp only[cD,cJ,aP,aA,VX.get,y,J,m1,m4];rw[ap (qOq e D),z1];simp only[aQ,R,bz]
   refine⟨_,by rw[rM,M];exact ev,?_,by rw[wN,c1]⟩;have l:a8 s1.r sv1.r a=(if g=U/\xs.length≠0 then g'.ids else [])++DV.owns xs ys:=by
    unfold a8;rw[N,J];simp only[AV.own,DV.own]
   have m:a8 ((a,AV.d (.sl g (fy xs ll hh)))::s1.r) sv1.r a=(if g=U/\xs.length≠0 then g'.ids else [])++DV.owns (fy xs ll hh) ys:=by
    unfold a8;rw[J];simp only[lk,if_true,AV.own,DV.own,Kr]
   have K:∀t,t≠a->a8 ((a,AV.d (.sl g (fy xs ll hh)))::s1.r) sv1.r t=a8 s1.r sv1.r t:=fun t q=>by
    unfold a8;simp only[lk];rw[ak q]
   have u:=z.held.nodup (.reg a);simp only[ay]at u;rw[l,CJ e ll hh]at u;obtain⟨u1,u2,u3⟩:=co.1 u;obtain⟨v1,v2,v3⟩:=co.1 u2;obtain⟨w1,w2,w3⟩:=co.1 v2;have G:(AV.d (.sl .sub ((xs.take hh).drop ll))).own (.d (.sl (if g'= .nil then .nil else .sub) ((ys.take hh).drop ll)))=DV.owns ((xs.take hh).drop ll) ((ys.take hh).drop ll):=by
    simp[AV.own,DV.own,U]
   have s:=z.over d3 (sx1:=⟨(a,AV.d (.sl g (fy xs ll hh)))::s1.r,s1.B⟩) (.reg a) (a:= .d (.sl .sub ((xs.take hh).drop ll))) (v:= .d (.sl (if g'= .nil then .nil else .sub) ((ys.take hh).drop ll)))
    (fun t x n=>by
     simp only[lk]at n;split at n
     ·rename_i q;subst q
      simp only[aB]at n;subst n
      refine⟨_,J,?_⟩;simp only[AV.fit,DV.fit];exact⟨_,rfl,_,_,rfl,MG e ll hh,by rw[Kr];exact hg⟩
     ·exact z.regs t x n)
    z.boxes
    (fun ℓ=>by
     cases ℓ with
     |box j=>exact bX _
     |reg t=>
      simp only[ay]
      by_cases q:t=a
      ·subst q
       rw[l,m,G6 e,CJ e ll hh];exact gw (bX _) (gw (bX _) (gi _ _))
      ·rw[K t q];exact bX _)
    (fun t q=>by
     simp only[lk]at q;split at q
     ·simp at q
     ·exact q)
    (by simp only[AV.fit,DV.fit];exact⟨_,rfl,_,_,rfl,DV.qbu (DV.qbl e hh) ll,Tag.qOt _ _ _⟩)
    (by rw[G];exact w1)
    (fun j hj=>by
     rw[G]at hj;simp only[ay];rw[l,m,G6 e,CJ e ll hh];refine⟨by simp[hj],fun hm=> ?_⟩;rcases bl.1 hm with hm|hm
     ·exact u3 j hm j (by simp[hj]) rfl
     ·rcases bl.1 hm with hm|hm
      ·exact v3 j hm j (by simp[hj]) rfl
      ·exact w3 j hj j hm rfl)
    (k':=sv.c+i+3) (by simp[FOper.pre]) sv.c
   have H:({(sv1.put (some d3) (.d (.sl (if g'= .nil then .nil else .sub) ((ys.take hh).drop ll))))with c:=sv.c}:St)=sv1.put (some d3) (.d (.sl (if g'= .nil then .nil else .sub) ((ys.take hh).drop ll))):=by rw[<-c1,uP]
   rw[H]at s;simpa[FOper.pre,FOper.post]using s
  ·simp at hx
 ·simp at hx
theorem Gf{cs ds:List AV}(h:AV.fits cs ds){k:Nat}{v:AV}(a:ds[k]?=some v)(x:AV):AV.owns (cs.set k x) ds=AV.owns (cs.take k) (ds.take k)++(x.own v++AV.owns (cs.drop (k+1)) (ds.drop (k+1))):=by
 have b:=AV.qan h;have c:k<ds.length:=(aK.1 a).1;have g:cs.set k x=cs.take k++(x::cs.drop (k+1)):=by rw[rZ,ap (by omega)]
 have e:ds=ds.take k++(v::ds.drop (k+1)):=by
  have d:ds[k]=v:=(aK.1 a).2
  conv=>lhs;rw[<-List.take_append_drop k ds,cW c,d]
 rw[g]
 conv=>lhs;rw[e]
 rw[AV.qaR (by simp[b])];rfl
theorem YF{l:List AV}{k:Nat}{v:AV}(h:l[k]?=some v):l.set k v=l:=by
 apply iO;intro j
 by_cases hj:k=j
 ·subst hj;rw[gR,h];simp
 ·rw[dh hj]
theorem vW{l:List DV}{k:Nat}{v:DV}(h:l[k]?=some v):l.set k v=l:=by
 apply iO;intro j
 by_cases hj:k=j
 ·subst hj;rw[gR,h];simp
 ·rw[dh hj]
theorem SB{cs ds:List AV}(h:AV.fits cs ds){k:Nat}{x v:AV}(c:ds[k]?=some v)(hx:x.fit v):AV.fits (cs.set k x) ds:=by
 refine(AV.qbg _ _).2 ⟨by simp[AV.qan h],fun i q e a b=> ?_⟩;have d:k<cs.length:=by rw[AV.qan h];exact(aK.1 c).1
 by_cases hi:i=k
 ·subst hi
  rw[hI d]at a;rw[c]at b;simp only[aB]at a b;subst a;subst b;exact hx
 ·rw[dh (Ne.symm hi)]at a
  exact((AV.qbg _ _).1 h).2 i q e a b
theorem Wq(h5:gr X V lin){d1 q d2:Nat}{b:VX}{d3 sz d4:Nat}{f1 f2 f3 f4:List Nat}(hl:(FOper.el d1 q d2 b d3 sz d4 f1 f2 f3 f4).pre.all (VOper.linOK T)=true)(h:Rel A0 T F p (sv.c+i) sx sv){s1:XS}
 (h1:bd X lin T draw L0 (FOper.el d1 q d2 b d3 sz d4 f1 f2 f3 f4).pre sx=some s1) (hx:gT T (.el d1 q d2 b d3 sz d4 f1 f2 f3 f4) s1=some sx'):Ce A0 T F p V draw L0 i (.el d1 q d2 b d3 sz d4 f1 f2 f3 f4) sv sx':=by
 obtain⟨sv1,e1,M,c1⟩:=lr h5 hl h h1;simp only[gT]at hx;split at hx
 ·rename_i bx off ik k k1 k2
  split at hx
  ·rename_i hc
   obtain⟨⟨hd4,n1,n2,n3,n4,n5⟩,a2,hz⟩:=hc;obtain⟨cs,q1,hx⟩:=aw.1 hx;split at hx
   ·rename_i g xs q2
    split at hx
    ·rename_i es q3
     split at hx
     ·rename_i b1
      simp only[aB]at hx;subst hx
      obtain⟨w,k4,O⟩:=M.regs q _ k1;simp only[AV.fit]at O;subst O
      obtain⟨w,k5,O⟩:=M.regs d2 _ k2;simp only[AV.fit,DV.fit]at O;obtain⟨_,rfl,rfl⟩:=O;obtain⟨ds,N,D⟩:=M.boxes.get q1;obtain⟨w,P,qf⟩:=AV.qb3 D q2;have Z:=qf;simp only[AV.fit,DV.fit]at Z;obtain⟨_,rfl,g',ys,rfl,y,hg⟩:=Z;obtain⟨e',q6,ef⟩:=DV.qb3 y q3;have h4:=ef;simp only[DV.fit]at h4;obtain⟨es',rfl,I⟩:=h4;have hlen:es'.length=sz:=by rw[<-DV.qan I];exact b1
      have h3:lk sv1.r d3=some (.ep es'):=by
       simp only[FOper.pre,cD,cJ,aP,aA]at e1;obtain⟨t1,n,e3⟩:=aw.1 e1;obtain⟨t2,e5,e6⟩:=aw.1 e3;obtain⟨vb,e7,rfl⟩:=au.1 e5;obtain⟨t3,e8,e9⟩:=aw.1 e6;obtain⟨vc,e,rfl⟩:=au.1 e8;simp only[aB]at e9;subst e9
       simp only[St.put]at n e3 e5 e7 e k4 k5 N P⊢
       simp only[VX.get]at n;have m:∀(c:AV),t1={sv with r:=(d1,c)::sv.r}->lk sv.r q=some (.ptr bx off)/\t1.B=sv.B:=fun c hc=>by
        subst hc;simp only[lk,ak (Ne.symm n3),ak (Ne.symm n2),ak (Ne.symm n1)]at k4;exact⟨k4,rfl⟩
       have h2:lk sv.r q=some (.ptr bx off):=by
        split at n
        ·obtain⟨v,_,u⟩:=au.1 n;exact(m _ u.symm).1
        ·split at n
         ·simp at n
         ·obtain⟨v,_,u⟩:=au.1 n;exact(m _ u.symm).1
        ·simp at n
       rw[h2]at n;simp only at n;split at n
       ·simp at n
       ·obtain⟨v,u,rfl⟩:=au.1 n
        simp only[aG]at u;simp only at N;rw[N]at u;simp only[aQ,bI,if_false]at u;rw[P]at u;simp only[aB]at u;subst u
        simp only[lk,if_true,VX.get,ak n4,ak (Ne.symm n5)]at e k5⊢
        simp only[aB]at k5;subst k5
        simp only at e;rw[ap a2,q6]at e;simp only[aQ,DV.cells,hlen]at e;rw[ap ⟨trivial,hz⟩]at e;exact e.symm
      have ev:cD V p draw L0 (i+3) [⟨some d4,.load true sz (.t d3),none,f4⟩] sv1=some (sv1.put (some d4) (.d (.agg es'))):=by
       simp only[cD,cJ,aP,VX.get,h3,cut,if_true];rw[ap (by omega),eU (by omega)];simp only[bz,aQ]
      refine⟨_,by rw[rM,e1];exact ev,?_,by rw[wN,c1]⟩;have hk:k.toNat<xs.length:=(aK.1 q3).1;have hb:bx<s1.B.length:=(aK.1 (iH.1 q1)).1;have S:=wH y (i:=k.toNat) (x:=(DV.agg es).clr) (DV.qcK _ _ ef);rw[vW q6]at S;have Y:=lZ y hk (DV.agg es).clr (.agg es');rw[vW q6,DV.qbC,dq]at Y;have R:=lZ y hk (DV.agg es) (.agg es');rw[vW q6,vW q3]at R;have J:sv1.B.set bx (some ds)=sv1.B:=by
       apply iO;intro j
       by_cases hj:bx=j
       ·subst hj;rw[gR,iH.1 N];simp
       ·rw[dh hj]
      have b2:(AV.d (.sl g (xs.set k.toNat (DV.agg es).clr))).fit (.d (.sl g' ys)):=by
       simp only[AV.fit,DV.fit];exact⟨_,rfl,_,_,rfl,S,by rw[kr];exact hg⟩
      have a1:=SB D P b2;have Q:=M.boxes.set bx a1;rw[J]at Q;have z:=Gf D P (.d (.sl g (xs.set k.toNat (DV.agg es).clr)));have l:=Gf D P (.d (.sl g xs));rw[YF q2]at l;simp only[AV.own,DV.own,kr]at z l;rw[Y]at z;rw[R]at l;have s:aW s1.B sv1.B bx=AV.owns cs ds:=by unfold aW;rw[q1,N]
      have G:aW (s1.B.set bx (some (cs.set off (.d (.sl g (xs.set k.toNat (DV.agg es).clr)))))) sv1.B bx=AV.owns (cs.set off (.d (.sl g (xs.set k.toNat (DV.agg es).clr)))) ds:=by
       unfold aW;rw[wB hb,N]
      have W:(AV.d (.agg es)).own (.d (.agg es'))=DV.owns es es':=by simp[AV.own,DV.own]
      simp only[DV.own]at l;have C:=M.held.nodup (.box bx);simp only[ay,s]at C;rw[l]at C;have K:∀j,j∈DV.owns es es'->j∉AV.owns (cs.set off (.d (.sl g (xs.set k.toNat (DV.agg es).clr)))) ds:=fun j hj hm=>by
       rw[z]at hm;obtain⟨u1,u2,u3⟩:=co.1 C;obtain⟨v1,v2,v3⟩:=co.1 u2;obtain⟨w1,w2,w3⟩:=co.1 v1;obtain⟨x1,x2,x3⟩:=co.1 w2;obtain⟨y1,y2,y3⟩:=co.1 x1;rcases bl.1 hm with hm|hm
       ·exact u3 j hm j (by simp[hj]) rfl
       ·rcases bl.1 hm with hm|hm
        ·rcases bl.1 hm with hm|hm
         ·exact w3 j hm j (by simp[hj]) rfl
         ·rcases bl.1 hm with hm|hm
          ·exact y3 j hm j hj rfl
          ·exact x3 j (by simp[hj]) j hm rfl
        ·exact v3 j (by simp[hj]) j hm rfl
      have H:=M.over d4 (sx1:=⟨s1.r,s1.B.set bx (some (cs.set off (.d (.sl g (xs.set k.toNat (DV.agg es).clr)))))⟩) (.box bx) (a:= .d (.agg es)) (v:= .d (.agg es'))
       M.regs Q
       (fun ℓ=>by
        cases ℓ with
        |reg t=>exact bX _
        |box j=>
         simp only[ay]
         by_cases hj:j=bx
         ·subst hj
          rw[s,G,l,z];exact gw (bX _) (gw (gw (bX _) (gw (n_ _ _) (bX _))) (bX _))
         ·rw[EV (fun he=>hj he.symm)];exact bX _)
       (fun t ht=>ht)
       (by simp only[AV.fit,DV.fit];exact⟨_,rfl,_,rfl,I⟩)
       (by
        rw[W];obtain⟨u1,u2,u3⟩:=co.1 C;obtain⟨v1,v2,v3⟩:=co.1 u2;obtain⟨w1,w2,w3⟩:=co.1 v1;obtain⟨x1,x2,x3⟩:=co.1 w2;exact(co.1 x1).2.1)
       (fun j hj=>by
        rw[W]at hj;simp only[ay];rw[s,G];exact⟨by rw[l];simp[hj],K j hj⟩)
       (k':=sv.c+i+4) (by simp[FOper.pre]) sv.c
      have m:({(sv1.put (some d4) (.d (.agg es')))with c:=sv.c}:St)=sv1.put (some d4) (.d (.agg es')):=by rw[<-c1,uP]
      rw[m]at H;simpa[FOper.pre,FOper.post]using H
     ·simp at hx
    ·simp at hx
   ·simp at hx
  ·simp at hx
 ·simp at hx
theorem HU(d:gr X V lin):∀{fs:List FOper} {i:Nat} {sx:XS} {sv:St},fs.all (fun f=>f.pre.all (VOper.linOK T))=true->Rel A0 T F p (sv.c+i) sx sv->eK X lin T draw L0 fs sx=some sx'->
 ∃e,cD V p draw L0 i (gn fs) sv=some e/\Rel A0 T F p (sv.c+i+(gn fs).length) sx' e/\e.c=sv.c
 | [],i,sx,sv,_,h,hx=>by simp[eK]at hx;subst hx;exact⟨sv,rfl,h,rfl⟩
 |f::fs,i,sx,sv,g,h,hx=>by
  simp only[fM,aF]at g;simp only[eK]at hx;obtain⟨s1,h1,hx⟩:=aw.1 hx;obtain⟨s2,j,hx⟩:=aw.1 hx;have l:Ce A0 T F p V draw L0 i f sv s2:=by
   cases f with
   |one o=>
    simp only[gT,aB]at j;subst j
    obtain⟨v1,n,m,e3⟩:=lr d g.1 h h1;exact⟨v1,by simpa[FOper.post]using n,by simpa[FOper.post]using m,e3⟩
   |sl d1 a d2 b d3 sz lo hi f1 f2 f3=>exact V8 d g.1 h h1 j
   |el d1 q d2 b d3 sz d4 f1 f2 f3 f4=>exact Wq d g.1 h h1 j
  obtain⟨v1,n,m,e3⟩:=l;obtain⟨v2,s,r,t⟩:=HU d (i:=i+(f.pre++f.post).length) g.2 (by rw[e3,<-Nat.add_assoc];exact m) hx;refine⟨v2,?_,?_,by rw[t,e3]⟩
  ·simp only[gn]
   rw[<-b7,rM,n];exact s
  ·simp only[gn]
   rw[<-b7,dz (as:=f.pre++f.post),<-Nat.add_assoc];rw[e3,<-Nat.add_assoc]at r;exact r
theorem UL(b:gr X V lin){na:Nat}{live:List Nat}{fs:List FOper}(g:fs.all (fun f=>f.pre.all (VOper.linOK T))=true)(h:Rel A0 T F p sv.c sx sv)(hx:jf X lin T draw na live fs sx=some sx'):
 ∃a,ib V p draw na live (gn fs) sv=some a/\Rel A0 T F p a.c sx' a:=by
 unfold jf at hx;split at hx
 ·simp at hx
 ·rename_i hd
  obtain⟨s1,h1,rfl⟩:=au.1 hx;have hm:=h.more na;obtain⟨v1,d,e,j⟩:=HU b (i:=0) (sv:={sv with B:=sv.B++List.replicate na none}) g (by simpa using hm) h1;rw[h.boxes.1]at d;simp only at e j;refine⟨{v1 with r:=keep v1.r live,c:=sv.c+(gn fs).length},by unfold ib;rw[ak hd,d];rfl,?_⟩;have:=(e.keep live).at (k':=sv.c+(gn fs).length) (c':=sv.c+(gn fs).length) (by omega);exact this
end
section
variable {A0:Ids} {T:List Nat} {F:Id->Prop} {p:Id} {sx sx':XS} {sv:St} {X:bM} {V:aZ} {lin:Nat->List Nat} {draw:Bool} {L0 i:Nat}
theorem uj(m:gr X V lin)(n:Nat):∀(vc:VCode),vc.linOK T=true->∀sx sv e sx',Rel A0 T F p sv.c sx sv->bD X lin T n vc sx=some (e,sx')->∃s,bF V p n vc sv=some (e,s)/\Rel A0 T F p s.c sx' s:=by
 intro vc
 induction vc with
 |ghost x c t=>
  intro d sx sv e sx' h hx;simp only[VCode.linOK]at d;simp only[bD]at hx;obtain⟨s1,h1,g⟩:=aw.1 hx;obtain⟨v1,l,j⟩:=MI h h1;simp only[bF,l,aQ];exact t d _ _ _ _ j g
 |regionT na live pre tl=>
  intro d sx sv e sx' h hx;simp only[VCode.linOK,aF]at d;simp only[bD]at hx;obtain⟨s1,h1,g⟩:=au.1 hx;simp at g;obtain⟨rfl,rfl⟩:=g
  obtain⟨v1,l,j⟩:=Tg m d.1 d.2 h h1;exact⟨v1,by simp only[bF,l,bz],j⟩
 |regionF draw na live fs=>
  intro d sx sv e sx' h hx;simp only[VCode.linOK]at d;simp only[bD]at hx;obtain⟨s1,h1,g⟩:=au.1 hx;simp at g;obtain⟨rfl,rfl⟩:=g
  obtain⟨v1,l,j⟩:=UL m d h h1;exact⟨v1,by simp only[bF,l,bz],j⟩
 |skip=>intro _ sx sv e sx' h hx;simp[bD]at hx;obtain⟨rfl,rfl⟩:=hx;exact⟨sv,rfl,h⟩
 |ret=>intro _ sx sv e sx' h hx;simp[bD]at hx;obtain⟨rfl,rfl⟩:=hx;exact⟨sv,rfl,h⟩
 |exit id=>intro _ sx sv e sx' h hx;simp[bD]at hx;obtain⟨rfl,rfl⟩:=hx;exact⟨sv,rfl,h⟩
 |seq a b q r=>
  intro d sx sv e sx' h hx;simp only[VCode.linOK,aF]at d;simp only[bD]at hx;obtain⟨⟨u,s1⟩,h1,g⟩:=aw.1 hx;obtain⟨v1,l,j⟩:=q d.1 _ _ _ _ h h1;simp only[bF,l,aQ];cases u with
  |normal=>exact r d.2 _ _ _ _ j g
  |exit id=>simp at g;obtain⟨rfl,rfl⟩:=g;exact⟨v1,rfl,j⟩
  |ret=>simp at g;obtain⟨rfl,rfl⟩:=g;exact⟨v1,rfl,j⟩
 |region draw na live ops=>
  intro d sx sv e sx' h hx;simp only[VCode.linOK]at d;simp only[bD]at hx;obtain⟨s1,h1,g⟩:=au.1 hx;simp at g;obtain⟨rfl,rfl⟩:=g
  obtain⟨v1,l,j⟩:=VM m d h h1;exact⟨v1,by simp only[bF,l,bz],j⟩
 |cond x a b q r=>
  intro d sx sv e sx' h hx;simp only[VCode.linOK,aF]at d;simp only[bD]at hx;split at hx
  ·rename_i hc
   obtain⟨v1,l,j⟩:=q d.1 _ _ _ _ h hx;exact⟨v1,by simp only[bF,h.getB hc,l],j⟩
  ·rename_i hc
   obtain⟨v1,l,j⟩:=r d.2 _ _ _ _ h hx;exact⟨v1,by simp only[bF,h.getB hc,l],j⟩
  ·simp at hx
 |block id c t=>
  intro d sx sv e sx' h hx;simp only[VCode.linOK]at d;simp only[bD]at hx;obtain⟨⟨u,s1⟩,h1,g⟩:=au.1 hx;obtain⟨v1,l,j⟩:=t d _ _ _ _ h h1;simp only[bF,l,bz];split at g
  ·rename_i he
   simp only at he;simp at g;obtain⟨rfl,rfl⟩:=g
   rw[ap he];exact⟨v1,rfl,j⟩
  ·rename_i he
   simp only at he;simp at g;obtain⟨rfl,rfl⟩:=g
   rw[ak he];exact⟨v1,rfl,j⟩
 |loop live c t=>
  intro d sx sv e sx' h hx;simp only[VCode.linOK]at d;simp only[bD]at hx;simp only[bF];rw[h.boxes.1]at hx;exact Yo (fun sx sv e sx' h hx=>t d sx sv e sx' h hx) _ live n sx sv e sx' h hx
end
end Go.Proofs.YtpcoohnjllclnaaGreat.VS
