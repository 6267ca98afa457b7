/- The engine, part 4: a call of the program answers what an evaluator of values without memory answers, for the functions whose code is the one that the evaluator is given. -/
import Derived.Test.YtpcoohnjllclnaaGreatEngD
set_option linter.unusedSimpArgs false
set_option linter.unusedVariables false
namespace Go.Proofs.YtpcoohnjllclnaaGreat.VS
def U:Tag:= .own [] 0
mutual
def DV.clr:DV->DV
 | .sl _ xs=> .sl .sub (DV.clrs xs)
 | .agg cs=> .agg (DV.clrs cs)
 | .tup vs=> .tup (DV.clrs vs)
 | .int k n=> .int k n
 | .bool b=> .bool b
 | .str s=> .str s
def DV.clrs:al->al
 | []=>[]
 |v::r=>v.clr::DV.clrs r
end
mutual
def AV.clr:AV->AV
 | .d v=> .d v.clr
 | .ep cs=> .ep (DV.clrs cs)
 | .fn f cap=> .fn f (AV.clrs cap)
 | .ptr i o=> .ptr i o
 | .nilp=> .nilp
 | .bsl id a i sz n=> .bsl id a i sz n
 | .tsl a i sz n=> .tsl a i sz n
 | .ag t cs=> .ag t (AV.clrs cs)
 | .und=> .und
def AV.clrs:aA->aA
 | []=>[]
 |v::r=>v.clr::AV.clrs r
end
def DV.cn1:DV->DV
 | .sl .nil []=> .sl U []
 |v=>v.clr
def DV.cn:DV->DV
 | .agg cs=> .agg (cs.map DV.cn1)
 |v=>v.cn1
def isAgg:DV->Bool
 | .agg _=>true
 |_=>false
mutual
def DV.allU:DV->Bool
 | .sl _ []=>true
 | .sl g (x::xs)=>decide (g=U)&&DV.allUs (x::xs)
 | .agg cs=>DV.allUs cs
 | .tup _=>false
 | .int _ _=>true
 | .bool _=>true
 | .str _=>true
def DV.allUs:al->Bool
 | []=>true
 |v::r=>v.allU&&DV.allUs r
end
def DV.allUT:DV->Bool
 | .tup vs=>DV.allUs vs
 |v=>v.allU
structure XS where
 r:aE
 B:ar
abbrev eK:=Option (Ex×XS)
abbrev bU:=Option XS
abbrev cq:=Nat->aA->ar->jV
def bq(r:aE):VX->bc
 | .t n=>lk r n
 | .c (.d v)=>some (.d v.cn)
 | .c v=>some v.clr
def cN(T:ae):a_->Bool
 |some d=>T.contains d
 |none=>false
def be(T:ae)(s:XS)(dst:a_)(v:AV):XS:=
 match dst with
 |some d=>⟨(d,if T.contains d then v else v.clr)::s.r,s.B⟩
 |none=>s
def eW(T:ae)(r:aE):VX->aE
 | .t n=>if T.contains n then(match lk r n with|some v=>(n,v.clr)::r|none=>r)else r
 | .c _=>r
def dC(T:ae)(r:aE):cm->aE
 | []=>r
 |x::xs=>dC T (eW T r x) xs
def eu(T:ae)(dst:a_)(s:XS)(xs:cm):XS:=if cN T dst then⟨dC T s.r xs,s.B⟩else s
def iE(B:ar)(i off sz:Nat):ar:=
 match aT B i with
 |some cs=>B.set i (some (splice cs off (AV.clrs ((cs.drop off).take sz))))
 |none=>B
def fZ(B:ar):ar:=B.map fun b=>b.map AV.clrs
def gS(B:ar)(sz i off:Nat)(v:AV):Option ar:=
 (aT B i).bind fun cs=>if v.cells.length=sz/\off+sz<=cs.length/\v.cells.all AV.isCell/\v.safe i then some (B.set i (some (splice cs off v.cells)))else none
def h_(r:aE):cm->Option aA
 | []=>some []
 |x::xs=>(bq r x).bind fun v=>(h_ r xs).map (v::·)
def c8(LP:ae):Nat->aA->aA
 |_,[]=>[]
 |j,v::r=>(if LP.contains j then v else v.clr)::c8 LP (j+1) r
def dV(LP:ae):Nat->cm->cm
 |_,[]=>[]
 |j,x::r=>if LP.contains j then x::dV LP (j+1) r else dV LP (j+1) r
def cK(sz bytes:Nat)(x y:DV):cZ:=
 match x,y with
 | .sl g xs,.sl _ ys=>
  if ys.all (fun e=>e.cells.length=sz/\e.cells.all DV.isCell)then
   if ys.isEmpty then some (.sl g xs)
   else if(xs.length+ys.length)*bytes<=140737488355328/\g=U/\xs.all (fun e=>e.cells.length=sz)then some (.sl U (xs++ys))
   else none
  else none
 |_,_=>none
def VX.linT(T:ae):VX->ae
 | .t n=>if T.contains n then [n]else []
 | .c _=>[]
def dn(T:ae):cm->Bool
 | []=>true
 |x::xs=>(x.linT T).all (fun n=> !(xs.any fun y=>(y.linT T).contains n))&&dn T xs
def VOper.linOK(T:ae)(o:VOper):Bool:=
 match o.op with
 | .build _ ps=>dn T (ps.map fun q=>q.2.2)
 | .buildSlice _ _ _ ps=>dn T (ps.map fun q=>q.2)
 | .append _ _ x y=>dn T [x,y]
 | .append1 _ _ x _ _ v _=>dn T [x,v]
 |_=>true
def VRes.vx:VRes->cm
 | .tmp t=>[.t t]
 | .cell _ _ _=>[]
def VCode.linOK(T:ae):VCode->Bool
 | .seq a b=>a.linOK T&&b.linOK T
 | .region _ _ _ ops=>ops.all (VOper.linOK T)
 | .cond _ a b=>a.linOK T&&b.linOK T
 | .block _ c=>c.linOK T
 | .loop _ c=>c.linOK T
 | .ghost _ c=>c.linOK T
 | .regionT _ _ pre tl=>pre.all (VOper.linOK T)&&tl.all (VOper.linOK T)
 | .regionF _ _ _ fs=>fs.all fun f=>f.pre.all (VOper.linOK T)
 |_=>true
def VFn.linOK(T:ae)(f:VFn):Bool:=f.code.linOK T&&dn T (f.results.flatMap VRes.vx)
def qJ(T:ae)(thaw:Bool)(s:XS)(dst:a_)(v:DV):bU:=if v.allUT then some (if thaw then be T ⟨s.r,s.B++(v.clr.thaw s.B.length).2⟩ dst (v.clr.thaw s.B.length).1 else be T s dst (.d v))else none
def sU(T:ae)(dst:a_)(sz:Nat)(arr:a_)(x i:VX)(s:XS):bU:=
 match cN T dst,x,arr with
 |true,.t n,none=>
  match bq s.r x,bq s.r i with
  |some (.d (.sl g xs)),some (.d (.int _ k))=>
   if 0<=k then(xs[k.toNat]?).bind fun e=>if e.cells.length=sz/\sz≠0 then some (be T (if T.contains n then⟨(n,.d (.sl g (xs.set k.toNat e.clr)))::s.r,s.B⟩else s) dst (.ep e.cells))else none
   else none
  |_,_=>none
 |_,_,_=>(aK s.r (.indexAddr sz arr x i)).map fun v=>be T s dst v.clr
def bm(call:cq)(lin:Nat->ae)(T:ae)(draw:Bool)(L0:Nat)(o:VOper)(s:XS):bU:=
 match o.op with
 | .move x=>(bq s.r x).map fun v=>be T (eu T o.dst s [x]) o.dst v
 | .pick c a b=>
  match bq s.r c with
  |some (.d (.bool true))=>(bq s.r a).map fun v=>be T (eu T o.dst s [a]) o.dst v
  |some (.d (.bool false))=>(bq s.r b).map fun v=>be T (eu T o.dst s [b]) o.dst v
  |_=>none
 | .alloc k zero=>if cO s.B (L0+k)/\zero.all DV.isCell then some (be T ⟨s.r,s.B.set (L0+k) (some (zero.map fun z=> .d z.cn1))⟩ o.dst (.ptr (L0+k) 0))else none
 | .box k x=>
  (bq s.r x).bind fun v=>
   if cO s.B (L0+k)/\v.cells.all AV.isCell/\v.safe (L0+k)then
    some (be T ⟨eW T s.r x,s.B.set (L0+k) (some v.cells)⟩ o.dst (.ptr (L0+k) 0))
   else none
 | .build zero parts=>(ez (bq s.r) (zero.map DV.cn1) parts).map fun cs=>be T (eu T o.dst s (parts.map fun q=>q.2.2)) o.dst (.d (.agg cs))
 | .buildSlice sz zero len parts=>
  if zero.cells.length=sz/\zero.cells.all DV.isCell/\len*sz<=16777216/\len<=16777216 then
   (df (bq s.r) sz (List.replicate len zero.cn) parts).map fun xs=>be T (eu T o.dst s (parts.map fun q=>q.2)) o.dst (.d (.sl U xs))
  else none
 | .makeSlice k sz bytes zero x=>
  match bq s.r x with
  |some (.d (.int _ n))=>
   if draw=false/\cO s.B (L0+k)/\0<=n/\n.toNat*bytes<=140737488355328/\n<9223372036854775808/\zero.cells.length=sz/\zero.cells.all DV.isCell then
    some (be T ⟨s.r,s.B.set (L0+k) (some (((List.replicate n.toNat zero.cn).flatMap DV.cells).map .d))⟩ o.dst
     (.bsl [] (isAgg zero) (L0+k) sz n.toNat))
   else none
  |_=>none
 | .load agg sz a=>
  match bq s.r a with
  |some (.ep cs)=>(cut agg sz cs).map fun v=>be T (eu T o.dst s [a]) o.dst (.d v)
  |some (.ptr b off)=>if draw/\L0<=b then none else(aP s.B agg sz b off).map fun v=>be T (if cN T o.dst then⟨s.r,iE s.B b off (if agg then sz else 1)⟩else s) o.dst v
  |_=>none
 | .store init sz a x=>
  match bq s.r a,bq s.r x with
  |some (.ptr b off),some v=>if gq draw init L0 b then none else(gS s.B sz b off v).map fun B=>be T ⟨eW T s.r x,B⟩ o.dst .und
  |_,_=>none
 | .storeN sz a x av=>
  match bq s.r a,bq s.r x with
  |some (.ptr b off),some v=>if gq draw false L0 b|| !eZ s.r b av then none else(gS s.B sz b off v).map fun B=>be T ⟨eW T s.r x,B⟩ o.dst .und
  |_,_=>none
 | .append sz bytes x y=>
  match bq s.r x,bq s.r y with
  |some (.d v),some (.d w)=>(cK sz bytes v w).map fun u=>be T ⟨dC T s.r (if cN T o.dst then [x,y]else [x]),s.B⟩ o.dst (.d u)
  |_,_=>none
 | .call iso f args=>
  match bq s.r f,h_ s.r args with
  |some (.fn k caps),some vs=>
   if iso then
    match aV vs,caps with
    |some _,[]=>
     match call k (c8 [] 0 vs) []with
     |some (.d v,_)=>some (be T s o.dst (.d v))
     |_=>none
    |_,_=>none
   else
    if dn T (dV (lin k) 0 args)then
     match call k (c8 (lin k) 0 vs++caps) s.B with
     |some (v,B)=>some (be T ⟨dC T s.r (dV (lin k) 0 args),B⟩ o.dst v)
     |none=>none
    else none
  |_,_=>none
 | .append1 sz bytes x y m v t9=>
  match bq s.r x,bq s.r y,bq s.r m,bq s.r v with
  |some (.d (.sl g xs)),some (.d (.sl _ [z])),some (.d (.int _ n)),some (.d w)=>
   if draw=false/\n=xs.length/\z.cells.length=sz/\z.cells.all DV.isCell=true/\w.cells.length=sz/\w.cells.all DV.isCell=true/\lk s.r t9=none then
    (cK sz bytes (.sl g xs) (.sl .sub [w])).map fun u=>be T ⟨dC T s.r (if cN T o.dst then [x,v]else [x]),s.B⟩ o.dst (.d u)
   else none
  |_,_,_,_=>none
 | .loadS agg sz a c=>
  match bq s.r a,lk s.r c with
  |some (.ptr b off),some (.ptr h _)=>if b=h\/(draw/\L0<=b)then none else(aP s.B agg sz b off).map fun v=>be T (if cN T o.dst then⟨s.r,iE s.B b off (if agg then sz else 1)⟩else s) o.dst v
  |_,_=>none
 | .callS c f args=>
  match bq s.r f,h_ s.r args,lk s.r c with
  |some (.fn k []),some (.ptr b off::vs),some (.ptr h _)=>
   if b≠h then none else(aV vs).bind fun _=>(aT s.B b).bind fun cs=>(aV cs).bind fun _=>
    match call k (.ptr 0 off::c8 [] 0 vs) [some (AV.clrs cs)]with
    |some (.d v,[some e])=>(aV e).map fun _=>be T ⟨s.r,s.B.set b (some (AV.clrs e))⟩ o.dst (.d v)
    |_=>none
  |_,_,_=>none
 | .extract x i=>
  match bq s.r x with
  |some (.ag true vs)=>(vs[i]?).map fun v=>be T s o.dst v.clr
  |some (.d (.tup vs))=>(vs[i]?).map fun v=>be T (match x with| .t n=>if cN T o.dst&&T.contains n then⟨(n,.d (.tup (vs.set i v.clr)))::s.r,s.B⟩else s| .c _=>s) o.dst (.d v)
  |_=>none
 | .eqNil _ _=>none
 | .indexAddr sz arr x i=>sU T o.dst sz arr x i s
 |op=>(aK s.r op).map fun v=>be T s o.dst v.clr
def bl(call:cq)(lin:Nat->ae)(T:ae)(draw:Bool)(L0:Nat):aC->XS->bU
 | [],s=>some s
 |o::os,s=>
  match dh s.r o.guard with
  |some true=>(bm call lin T draw L0 o s).bind (bl call lin T draw L0 os)
  |some false=>bl call lin T draw L0 os (be T s o.dst .und)
  |none=>none
def aJ(e:Nat)(live:ae)(s:XS):bU:=if aG e (keep s.r live)/\e<=s.B.length then some ⟨keep s.r live,s.B.take e⟩else none
def gn(f:XS->eK)(e:Nat)(live:ae):Nat->XS->eK
 |0,_=>none
 |n+1,s=>
  (aJ e live s).bind fun s0=>
   (f s0).bind fun r=>
    match r.1 with
    | .normal=>gn f e live n r.2
    |_=>some r
def jY(call:cq)(lin:Nat->ae)(T:ae)(draw:Bool)(na:Nat)(live:ae)(ops:aC)(s:XS):bU:=
 if draw&& !ja ops then none
 else(bl call lin T draw s.B.length ops ⟨s.r,s.B++List.replicate na none⟩).map fun s'=>⟨keep s'.r live,s'.B⟩
def lL(call:cq)(lin:Nat->ae)(T:ae)(na:Nat)(live:ae)(pre tl:aC)(s:XS):bU:=
 if ja pre=false then none
 else(bl call lin T true s.B.length pre ⟨s.r,s.B++List.replicate na none⟩).bind fun s1=>(bl call lin T false s.B.length tl s1).map fun s2=>⟨keep s2.r live,s2.B⟩
def f9(xs:al)(l h:Nat):al:=(xs.take h).take l++DV.clrs ((xs.take h).drop l)++xs.drop h
def iu(T:ae):FOper->XS->bU
 | .one _,s=>some s
 | .sl d1 a d2 _ d3 sz lo hi _ _ _,s=>
  match lk s.r a,dz s.r lo,dz s.r hi with
  |some (.d (.sl g xs)),some lo,some hi=>
   if(T.contains a=true/\T.contains d3=true/\d1≠a/\d2≠a/\d1≠d2)/\xs.all (fun e=>e.cells.length=sz)then
    (fk xs.length hi).bind fun h=>(fj h lo).map fun l=>be T ⟨(a,.d (.sl g (f9 xs l h)))::s.r,s.B⟩ (some d3) (.d (.sl .sub ((xs.take h).drop l)))
   else none
  |_,_,_=>none
 | .el d1 q d2 _ d3 sz d4 _ _ _ _,s=>
  match lk s.r q,lk s.r d2 with
  |some (.ptr b off),some (.d (.int _ k))=>
   if(T.contains d4=true/\d1≠q/\d2≠q/\d3≠q/\d1≠d2/\d3≠d2)/\0<=k/\sz≠0 then
    (aT s.B b).bind fun cs=>
     match cs[off]? with
     |some (.d (.sl g xs))=>
      match xs[k.toNat]? with
      |some (.agg m)=>if m.length=sz then some (be T ⟨s.r,s.B.set b (some (cs.set off (.d (.sl g (xs.set k.toNat (DV.agg m).clr)))))⟩ (some d4) (.d (.agg m)))else none
      |_=>none
     |_=>none
   else none
  |_,_=>none
def fu(call:cq)(lin:Nat->ae)(T:ae)(draw:Bool)(L0:Nat):eU->XS->bU
 | [],s=>some s
 |f::fs,s=>(bl call lin T draw L0 f.pre s).bind fun s1=>(iu T f s1).bind (fu call lin T draw L0 fs)
def jA(call:cq)(lin:Nat->ae)(T:ae)(draw:Bool)(na:Nat)(live:ae)(fs:eU)(s:XS):bU:=
 if draw&& !ja (gQ fs)then none
 else(fu call lin T draw s.B.length fs ⟨s.r,s.B++List.replicate na none⟩).map fun s'=>⟨keep s'.r live,s'.B⟩
mutual
def DV.xrest(rs:al):DV->Bool
 | .agg cs=>DV.xrests rs cs
 | .tup cs=>DV.xrests rs cs
 | .sl g xs=>(xs.isEmpty||(xs.flatMap DV.cells).any (fun c=>rs.all fun r=> !c.like r)||decide (g=U))&&DV.xrests rs xs
 | .int _ _=>true
 | .bool _=>true
 | .str _=>true
def DV.xrests(rs:al):al->Bool
 | []=>true
 |v::r=>v.xrest rs&&DV.xrests rs r
end
def AV.xrest(rs:al):AV->Bool
 | .d v=>v.xrest rs
 | .ptr _ _=>true
 | .nilp=>true
 | .bsl _ _ _ _ _=>true
 | .tsl _ _ _ _=>true
 | .und=>true
 | .fn _ []=>true
 |_=>false
def jv(rs:al)(r:aE):Bool:=r.all fun q=>q.2.xrest rs
def ft(rs:al)(B:ar):Bool:=B.all fun b=>match b with|none=>true|some cs=>cs.all (AV.xrest rs)
def gp(x:Gho)(s:XS):bU:=
 match x with
 | .focR t live=>
  match lk s.r t with
  |some (.d (.sl (.own [] 0) (x::xs)))=>
   if live.contains t=false/\jv ((x::xs).flatMap DV.cells) (keep s.r live)=true/\ft ((x::xs).flatMap DV.cells) s.B=true/\DV.xrests ((x::xs).flatMap DV.cells) ((x::xs).flatMap DV.cells)=true then
    some ⟨(t,.tsl (b_ x) s.B.length x.cells.length (xs.length+1))::keep s.r live,s.B++[some (((x::xs).flatMap DV.cells).map .d)]⟩
   else none
  |_=>none
 | .focC t off live=>
  match lk s.r t with
  |some (.ptr (j+1) o)=>
   (aT s.B (j+1)).bind fun cs=>
    match cs[o+off]? with
    |some (.d (.sl (.own [] 0) (x::xs)))=>
     if cO s.B j=true/\jv ((x::xs).flatMap DV.cells) (keep s.r live)=true/\
      ft ((x::xs).flatMap DV.cells) (s.B.set (j+1) (some (cs.set (o+off) (.tsl (b_ x) j x.cells.length (xs.length+1)))))=true/\DV.xrests ((x::xs).flatMap DV.cells) ((x::xs).flatMap DV.cells)=true then
      some ⟨keep s.r live,(s.B.set (j+1) (some (cs.set (o+off) (.tsl (b_ x) j x.cells.length (xs.length+1))))).set j (some (((x::xs).flatMap DV.cells).map .d))⟩
     else none
    |_=>none
  |_=>none
 | .frzR t L live=>
  match lk s.r t with
  |some v=>
   if live.contains t=false/\aG L (keep s.r live)=true/\L<=s.B.length then
    (v.frz (dp L s.B)).map fun d=>⟨(t,.d d.clr)::keep s.r live,s.B.take L⟩
   else none
  |none=>none
 | .frzB t L live=>
  match lk s.r t with
  |some (.ptr i 0)=>
   if L<=i/\live.contains t=false/\aG L (keep s.r live)=true/\L<=s.B.length then
    (aT s.B i).bind fun cs=>(cQ (AV.frzC (dp L s.B) s.B.length) cs).bind fun ds=>if ds.all DV.isCell then some ⟨(t,.ptr L 0)::keep s.r live,s.B.take L++[some (ds.map fun d=> .d d.clr)]⟩else none
   else none
  |_=>none
def bN(call:cq)(lin:Nat->ae)(T:ae)(n:Nat):VCode->XS->eK
 | .skip,s=>some (.normal,s)
 | .ret,s=>some (.ret,s)
 | .exit id,s=>some (.exit id,s)
 | .seq a b,s=>
  (bN call lin T n a s).bind fun r=>
   match r.1 with
   | .normal=>bN call lin T n b r.2
   |_=>some r
 | .region draw na live ops,s=>(jY call lin T draw na live ops s).map fun s'=>(.normal,s')
 | .cond x a b,s=>
  match bq s.r x with
  |some (.d (.bool true))=>bN call lin T n a s
  |some (.d (.bool false))=>bN call lin T n b s
  |_=>none
 | .block id c,s=>(bN call lin T n c s).map fun r=>if r.1= .exit id then(.normal,r.2)else r
 | .loop live c,s=>gn (bN call lin T n c) s.B.length live n s
 | .ghost x c,s=>(gp x s).bind (bN call lin T n c)
 | .regionT na live pre tl,s=>(lL call lin T na live pre tl s).map fun s'=>(.normal,s')
 | .regionF draw na live fs,s=>(jA call lin T draw na live fs s).map fun s'=>(.normal,s')
def pn(s:XS):VRes->bc
 | .tmp t=>lk s.r t
 | .cell t agg sz=>
  match lk s.r t with
  |some (.ptr i off)=>(aP s.B agg sz i off).map AV.clr
  |_=>none
def nA(s:XS):fK->Option aA
 | []=>some []
 |x::xs=>(pn s x).bind fun v=>(nA s xs).map (v::·)
def Cy(L:Nat)(s:XS)(t:Nat)(agg:Bool)(sz:Nat):jV:=
 match lk s.r t with
 |some (.ptr i off)=>
  if L<=i then
   match aP s.B agg sz i off with
   |some (.d v)=>some (.d v,s.B.take L)
   |_=>none
  else none
 |_=>none
def v_(L:Nat)(s:XS)(rs:fK):jV:=
 match nA s rs with
 |some [.d v]=>some (.d v,s.B.take L)
 |some [.ptr i off]=>some (.ptr i off,s.B)
 |some [.bsl _ agg i sz n]=>
  if L<=i/\n<9223372036854775808 then
   ((aT s.B i).bind aV).bind fun cs=>if cs.length=n*sz then(chunks agg sz n cs).map fun xs=>(.d (.sl U xs),s.B.take L)else none
  else none
 |some [_]=>none
 |some vs=>(aV vs).map fun ds=>(.d (.tup ds),s.B.take L)
 |none=>none
def EL(L:Nat)(s:XS)(t1:Nat)(g1:Bool)(m w:Nat)(g2:Bool)(C q:Nat):jV:=
 match lk s.r t1,lk s.r w,lk s.r q with
 |some (.ptr e D),some (.ptr g u),some (.d (.bool b))=>
  if L<=e/\L<=g/\e≠g then
   match aP s.B g1 m e D,aP s.B g2 C g u with
   |some (.d v1),some (.d h)=>some (.d (.tup [v1,h,.bool b]),s.B.take L)
   |_,_=>none
  else none
 |_,_,_=>none
def gf(L:Nat)(s:XS):fK->jV
 | [.cell t agg sz]=>Cy L s t agg sz
 | [.cell t1 g1 e,.cell h g2 m,.tmp g]=>EL L s t1 g1 e h g2 m g
 |rs=>v_ L s rs
structure XEnv where
 env:Env
 lin:Nat->ae
 nat:Nat->Option (al->cZ)
def iF(call:cq)(sf:SFn)(x:DV)(xr:al):Option al:=
 if DV.allUs (x::xr)=true then
  match call sf.srt [.tsl true 0 x.cells.length (xr.length+1),.fn sf.cmp []] [some (((x::xr).flatMap DV.cells).map .d)]with
  |some (_,[some cs])=>(aV cs).bind fun e=>if e.length=(xr.length+1)*x.cells.length then chunks true x.cells.length (xr.length+1) e else none
  |_=>none
 else none
def qg(s:XS):Option (DV×DV):=
 match lk s.r 3,lk s.r 4,s.B with
 |some (.ptr 0 0),some (.ptr 1 0),[some [.d g,.d e,_],some [.d q,.d h,.d m]]=>if g.flat&&e.flat&&q.flat&&h.flat&&m.flat&&g.isCell&&e.isCell then some (g.clr,e.clr)else none
 |_,_,_=>none
def iJ(call:cq)(lin:Nat->ae)(T:ae)(n:Nat)(sf:SFn)(ds:al):cZ:=
 if ds.length≠sf.np then none else
  (bN call lin T n sf.pre ⟨bo 0 (ds.map .d),[]⟩).bind fun r=>
   match r.1,lk r.2.r sf.cond,lk r.2.r sf.row with
   | .normal,some (.d (.bool true)),some (.d (.sl (.own [] 0) (x::xr)))=>(qg r.2).bind fun y=>(iF call sf x xr).map fun q=> .agg [y.1,y.2,.sl U q]
   | .normal,some (.d (.bool false)),_| .normal,some (.d (.bool true)),some (.d (.sl _ []))=>
    (bN call lin T n sf.rest r.2).bind fun e=>
     match e.1 with
     | .exit _=>none
     |_=>(gf 0 e.2 sf.results).bind fun q=>match q.1 with
      | .d v=>some v
      |_=>none
   |_,_,_=>none
def cG(X:XEnv):Nat->cq
 |0,_,_,_=>none
 |n+1,f,args,B=>
  match X.nat f with
  |some g=>(aV args).bind fun ds=>(g ds).map fun v=>(.d v,B)
  |none=>
   match X.env.code f with
   |none=>
    match X.env.spec f with
    |none=>none
    |some sf=>(aV args).bind fun ds=>(iJ (cG X n) X.lin (X.lin f) n sf ds).map fun v=>(.d v,B)
   |some vf=>
    if args.length≠vf.np then none else
     match X.env.base f with
     |none=>(bN (cG X n) X.lin (X.lin f) n vf.code ⟨bo 0 args,B⟩).bind fun r=>
      match r.1 with
      | .exit _=>none
      |_=>gf B.length r.2 vf.results
     |some m=>if B.length≠m then none else(bN (cG X n) X.lin (X.lin f) n vf.code ⟨bo 0 (AV.clrs args),fZ B⟩).bind fun r=>
      match r.1 with
      | .exit _=>none
      |_=>gf B.length r.2 vf.results
def Tag.ids:Tag->eq
 | .own a _=>[a]
 |_=>[]
def Tag.fit(g:Tag)(n:Nat)(g':Tag)(ys:al):Prop:=g= .sub\/(g=U/\((n=0/\(g'= .nil\/∃a sz,g'= .own a sz))\/(n≠0/\∃a sz,g'= .own a sz/\∀e:DV,e∈ys->e.cells.length=sz)))
mutual
def DV.fit:DV->DV->Prop
 | .sl g xs,v=>∃g' ys,v= .sl g' ys/\DV.fits xs ys/\g.fit xs.length g' ys
 | .agg cs,v=>∃ds,v= .agg ds/\DV.fits cs ds
 | .tup cs,v=>∃ds,v= .tup ds/\DV.fits cs ds
 | .int k n,v=>v= .int k n
 | .bool b,v=>v= .bool b
 | .str s,v=>v= .str s
def DV.fits:al->al->Prop
 | [],ys=>ys=[]
 |x::xs,ys=>∃v vs,ys=v::vs/\x.fit v/\DV.fits xs vs
end
mutual
def DV.own:DV->DV->eq
 | .sl g xs,.sl g' ys=>(if g=U/\xs.length≠0 then g'.ids else [])++DV.owns xs ys
 | .agg cs,.agg ds=>DV.owns cs ds
 | .tup cs,.tup ds=>DV.owns cs ds
 |_,_=>[]
def DV.owns:al->al->eq
 |x::xs,y::ys=>x.own y++DV.owns xs ys
 |_,_=>[]
end
def AV.own:AV->AV->eq
 | .d x,.d v=>x.own v
 | .ep cs,.ep ds=>DV.owns cs ds
 |_,_=>[]
def AV.owns:aA->aA->eq
 |x::xs,y::ys=>x.own y++AV.owns xs ys
 |_,_=>[]
mutual
def AV.fit:AV->AV->Prop
 | .d x,v=>∃y,v= .d y/\x.fit y
 | .ep cs,v=>∃ds,v= .ep ds/\DV.fits cs ds
 | .fn f cap,v=>∃e,v= .fn f e/\AV.fits cap e/\AV.owns cap e=[]
 | .ptr i o,v=>v= .ptr i o
 | .nilp,v=>v= .nilp
 | .bsl _ a i sz n,v=>∃id,v= .bsl id a i sz n
 | .tsl a i sz n,v=>v= .tsl a i sz n
 | .ag t cs,v=>∃ds,v= .ag t ds/\AV.fits cs ds/\AV.owns cs ds=[]
 | .und,v=>v= .und
def AV.fits:aA->aA->Prop
 | [],ys=>ys=[]
 |x::xs,ys=>∃v vs,ys=v::vs/\x.fit v/\AV.fits xs vs
end
theorem Tag.qR4(n:Nat)(g':Tag)(ys:al):Tag.fit .sub n g' ys:= .inl rfl
mutual
theorem DV.qcN:∀(x v:DV),x.fit v->x.clr.fit v
 | .sl g xs,v,h=>by
  simp only[DV.fit,DV.clr]at h⊢
  obtain⟨g',ys,rfl,e,m⟩:=h;exact⟨g',ys,rfl,DV.qbm xs ys e,.inl rfl⟩
 | .agg cs,v,h=>by
  simp only[DV.fit,DV.clr]at h⊢
  obtain⟨ds,rfl,e⟩:=h;exact⟨ds,rfl,DV.qbm cs ds e⟩
 | .tup cs,v,h=>by
  simp only[DV.fit,DV.clr]at h⊢
  obtain⟨ds,rfl,e⟩:=h;exact⟨ds,rfl,DV.qbm cs ds e⟩
 | .int k n,v,h=>by simpa only[DV.fit,DV.clr]using h
 | .bool b,v,h=>by simpa only[DV.fit,DV.clr]using h
 | .str s,v,h=>by simpa only[DV.fit,DV.clr]using h
theorem DV.qbm:∀(xs ys:al),DV.fits xs ys->DV.fits (DV.clrs xs) ys
 | [],ys,h=>by simpa only[DV.fits,DV.clrs]using h
 |x::xs,ys,h=>by
  simp only[DV.fits,DV.clrs]at h⊢
  obtain⟨v,vs,rfl,g,e⟩:=h;exact⟨v,vs,rfl,DV.qcN x v g,DV.qbm xs vs e⟩
end
mutual
theorem DV.qbL:∀(x v:DV),x.clr.own v=[]
 | .sl g xs,v=>by cases v<;>simp[DV.clr,DV.own,DV.qef xs,U]
 | .agg cs,v=>by cases v<;>simp[DV.clr,DV.own,DV.qef cs]
 | .tup cs,v=>by cases v<;>simp[DV.clr,DV.own,DV.qef cs]
 | .int k n,v=>by cases v<;>simp[DV.clr,DV.own]
 | .bool b,v=>by cases v<;>simp[DV.clr,DV.own]
 | .str s,v=>by cases v<;>simp[DV.clr,DV.own]
theorem DV.qef:∀(xs ys:al),DV.owns (DV.clrs xs) ys=[]
 | [],ys=>by simp[DV.clrs,DV.owns]
 |x::xs,ys=>by cases ys<;>simp[DV.clrs,DV.owns,DV.qbL x,DV.qef xs]
end
mutual
theorem DV.qbn:∀(x:DV),x.clr.fit x
 | .sl g xs=>by simp only[DV.clr,DV.fit];exact⟨_,_,rfl,DV.qcX xs,.inl rfl⟩
 | .agg cs=>by simp only[DV.clr,DV.fit];exact⟨_,rfl,DV.qcX cs⟩
 | .tup cs=>by simp only[DV.clr,DV.fit];exact⟨_,rfl,DV.qcX cs⟩
 | .int k n=>by simp[DV.clr,DV.fit]
 | .bool b=>by simp[DV.clr,DV.fit]
 | .str s=>by simp[DV.clr,DV.fit]
theorem DV.qcX:∀(xs:al),DV.fits (DV.clrs xs) xs
 | []=>by simp[DV.clrs,DV.fits]
 |x::xs=>by simp only[DV.clrs,DV.fits];exact⟨_,_,rfl,DV.qbn x,DV.qcX xs⟩
end
theorem DV.qaw:∀l:al,DV.clrs l=l.map DV.clr
 | []=>by simp[DV.clrs]
 |x::xs=>by simp[DV.clrs,DV.qaw xs]
theorem AV.qaw:∀l:aA,AV.clrs l=l.map AV.clr
 | []=>by simp[AV.clrs]
 |x::xs=>by simp[AV.clrs,AV.qaw xs]
theorem DV.qbl:∀(xs ys:al),DV.fits xs ys↔xs.length=ys.length/\∀(i:Nat) (x y:DV),xs[i]?=some x->ys[i]?=some y->x.fit y
 | [],ys=>by
  simp only[DV.fits];constructor
  ·rintro rfl;simp
  ·rintro⟨h,_⟩;exact jX.1 h.symm
 |x::xs,ys=>by
  simp only[DV.fits];constructor
  ·rintro⟨v,vs,rfl,q,m⟩
   obtain⟨u,r⟩:=(DV.qbl xs vs).1 m;refine⟨by simp[u],fun i a b e g=> ?_⟩;cases i with
   |zero=>simp at e g;subst e;subst g;exact q
   |succ i=>simp at e g;exact r i a b e g
  ·rintro⟨q,m⟩
   cases ys with
   |nil=>simp at q
   |cons y ys=>exact⟨y,ys,rfl,m 0 x y rfl rfl,(DV.qbl xs ys).2 ⟨by simpa using q,fun i a b e g=>m (i+1) a b (by simpa using e) (by simpa using g)⟩⟩
theorem AV.qbl:∀(xs ys:aA),AV.fits xs ys↔xs.length=ys.length/\∀(i:Nat) (x y:AV),xs[i]?=some x->ys[i]?=some y->x.fit y
 | [],ys=>by
  simp only[AV.fits];constructor
  ·rintro rfl;simp
  ·rintro⟨h,_⟩;exact jX.1 h.symm
 |x::xs,ys=>by
  simp only[AV.fits];constructor
  ·rintro⟨v,vs,rfl,q,m⟩
   obtain⟨u,r⟩:=(AV.qbl xs vs).1 m;refine⟨by simp[u],fun i a b e g=> ?_⟩;cases i with
   |zero=>simp at e g;subst e;subst g;exact q
   |succ i=>simp at e g;exact r i a b e g
  ·rintro⟨q,m⟩
   cases ys with
   |nil=>simp at q
   |cons y ys=>exact⟨y,ys,rfl,m 0 x y rfl rfl,(AV.qbl xs ys).2 ⟨by simpa using q,fun i a b e g=>m (i+1) a b (by simpa using e) (by simpa using g)⟩⟩
variable{xs ys:al}
theorem DV.qao(h:DV.fits xs ys):xs.length=ys.length:=((DV.qbl xs ys).1 h).1
theorem AV.qao{xs ys:aA}(h:AV.fits xs ys):xs.length=ys.length:=((AV.qbl xs ys).1 h).1
variable{i:Nat}
theorem DV.qce(h:DV.fits xs ys){x:DV}(g:xs[i]?=some x):∃y,ys[i]?=some y/\x.fit y:=by
 obtain⟨q,m⟩:=(DV.qbl xs ys).1 h;have e:i<ys.length:=by rw[<-q];exact(aU.1 g).1
 exact⟨ys[i],by simp[e],m i x _ g (by simp[e])⟩
theorem AV.qce{xs ys:aA}(h:AV.fits xs ys){x:AV}(g:xs[i]?=some x):∃y,ys[i]?=some y/\x.fit y:=by
 obtain⟨q,m⟩:=(AV.qbl xs ys).1 h;have e:i<ys.length:=by rw[<-q];exact(aU.1 g).1
 exact⟨ys[i],by simp[e],m i x _ g (by simp[e])⟩
variable{b c d:al}
theorem DV.qaW{a:al}(e:DV.fits a c)(g:DV.fits b d):DV.fits (a++b) (c++d):=by
 induction a generalizing c with
 |nil=>simp only[DV.fits]at e;subst e;simpa using g
 |cons x xs m=>simp only[DV.fits]at e;obtain⟨v,vs,rfl,h,q⟩:=e;simp only[dk,DV.fits];exact⟨v,vs++d,rfl,h,m q⟩
theorem AV.qaW{a b c d:aA}(e:AV.fits a c)(g:AV.fits b d):AV.fits (a++b) (c++d):=by
 induction a generalizing c with
 |nil=>simp only[AV.fits]at e;subst e;simpa using g
 |cons x xs m=>simp only[AV.fits]at e;obtain⟨v,vs,rfl,h,q⟩:=e;simp only[dk,AV.fits];exact⟨v,vs++d,rfl,h,m q⟩
theorem DV.qbr{a:al}(h:DV.fits a c)(n:Nat):DV.fits (a.take n) (c.take n):=by
 induction a generalizing c n with
 |nil=>simp only[DV.fits]at h;subst h;simp[DV.fits]
 |cons x xs g=>
  simp only[DV.fits]at h;obtain⟨v,vs,rfl,e,m⟩:=h;cases n with
  |zero=>simp[DV.fits]
  |succ n=>simp only[se,DV.fits];exact⟨_,_,rfl,e,g m n⟩
theorem DV.qbC{a:al}(h:DV.fits a c)(n:Nat):DV.fits (a.drop n) (c.drop n):=by
 induction a generalizing c n with
 |nil=>simp only[DV.fits]at h;subst h;simp[DV.fits]
 |cons x xs e=>
  have h':=h;simp only[DV.fits]at h;obtain⟨v,vs,rfl,m,g⟩:=h;cases n with
  |zero=>simpa using h'
  |succ n=>simpa using e g n
theorem AV.qbr{a c:aA}(h:AV.fits a c)(n:Nat):AV.fits (a.take n) (c.take n):=by
 induction a generalizing c n with
 |nil=>simp only[AV.fits]at h;subst h;simp[AV.fits]
 |cons x xs g=>
  simp only[AV.fits]at h;obtain⟨v,vs,rfl,e,m⟩:=h;cases n with
  |zero=>simp[AV.fits]
  |succ n=>simp only[se,AV.fits];exact⟨_,_,rfl,e,g m n⟩
theorem AV.qbC{a c:aA}(h:AV.fits a c)(n:Nat):AV.fits (a.drop n) (c.drop n):=by
 induction a generalizing c n with
 |nil=>simp only[AV.fits]at h;subst h;simp[AV.fits]
 |cons x xs e=>
  have h':=h;simp only[AV.fits]at h;obtain⟨v,vs,rfl,m,g⟩:=h;cases n with
  |zero=>simpa using h'
  |succ n=>simpa using e g n
theorem DV.qaT{a:al}(h:a.length=c.length):DV.owns (a++b) (c++d)=DV.owns a c++DV.owns b d:=by
 induction a generalizing c with
 |nil=>cases c with
  |nil=>simp[DV.owns]
  |cons _ _=>simp at h
 |cons x xs e=>cases c with
  |nil=>simp at h
  |cons y ys=>simp[DV.owns,e (c:=ys) (by simpa using h),cr]
theorem AV.qaT{a b c d:aA}(h:a.length=c.length):AV.owns (a++b) (c++d)=AV.owns a c++AV.owns b d:=by
 induction a generalizing c with
 |nil=>cases c with
  |nil=>simp[AV.owns]
  |cons _ _=>simp at h
 |cons x xs e=>cases c with
  |nil=>simp at h
  |cons y ys=>simp[AV.owns,e (c:=ys) (by simpa using h),cr]
theorem DV.qbX{a:al}(h:a.length=c.length)(n:Nat):DV.owns a c=DV.owns (a.take n) (c.take n)++DV.owns (a.drop n) (c.drop n):=by rw[<-DV.qaT (by simp[h]),d7,d7]
theorem AV.qbX{a c:aA}(h:a.length=c.length)(n:Nat):AV.owns a c=AV.owns (a.take n) (c.take n)++AV.owns (a.drop n) (c.drop n):=by rw[<-AV.qaT (by simp[h]),d7,d7]
theorem DV.qcB{x y:DV}(e:xs[i]?=some x)(g:ys[i]?=some y):(x.own y).Sublist (DV.owns xs ys):=by
 induction xs generalizing ys i with
 |nil=>simp at e
 |cons a as h=>cases ys with
  |nil=>simp at g
  |cons b bs=>cases i with
   |zero=>simp at e g;subst e;subst g;simp[DV.owns]
   |succ i=>simp at e g;simp only[DV.owns];exact(h e g).trans (gV _ _)
theorem AV.qcB{xs ys:aA}{x y:AV}(e:xs[i]?=some x)(g:ys[i]?=some y):(x.own y).Sublist (AV.owns xs ys):=by
 induction xs generalizing ys i with
 |nil=>simp at e
 |cons a as h=>cases ys with
  |nil=>simp at g
  |cons b bs=>cases i with
   |zero=>simp at e g;subst e;subst g;simp[AV.owns]
   |succ i=>simp at e g;simp only[AV.owns];exact(h e g).trans (gV _ _)
theorem DV.qa5{x v:DV}(h:x.fit v):DV.fits x.cells v.cells:=by
 cases x<;>simp only[DV.fit]at h
 case agg cs=>obtain⟨ds,rfl,e⟩:=h;exact e
 case sl g xs=>obtain⟨g',ys,rfl,e,m⟩:=h;simp only[DV.cells,DV.fits];exact⟨_,_,rfl,by simp only[DV.fit];exact⟨_,_,rfl,e,m⟩,rfl⟩
 case tup cs=>obtain⟨ds,rfl,e⟩:=h;simp only[DV.cells,DV.fits];exact⟨_,_,rfl,by simp only[DV.fit];exact⟨_,rfl,e⟩,rfl⟩
 all_goals subst h;simp[DV.cells,DV.fits,DV.fit]
theorem DV.qdy{x v:DV}(h:x.fit v):DV.owns x.cells v.cells=x.own v:=by
 cases x<;>simp only[DV.fit]at h
 case agg cs=>obtain⟨ds,rfl,e⟩:=h;simp[DV.cells,DV.own]
 case sl g xs=>obtain⟨g',ys,rfl,e,m⟩:=h;simp[DV.cells,DV.owns]
 case tup cs=>obtain⟨ds,rfl,e⟩:=h;simp[DV.cells,DV.owns]
 all_goals subst h;simp[DV.cells,DV.owns]
theorem DV.qel{x v:DV}(h:x.fit v):v.isCell=x.isCell:=by
 cases x<;>simp only[DV.fit]at h
 case agg cs=>obtain⟨ds,rfl,e⟩:=h;rfl
 case sl g xs=>obtain⟨g',ys,rfl,e,m⟩:=h;rfl
 case tup cs=>obtain⟨ds,rfl,e⟩:=h;rfl
 all_goals subst h;rfl
variable{vs:al}
theorem DV.qbB(h:DV.fits xs vs):vs.all DV.isCell=xs.all DV.isCell:=by
 induction xs generalizing vs with
 |nil=>simp only[DV.fits]at h;subst h;rfl
 |cons x xs m=>simp only[DV.fits]at h;obtain⟨v,r,rfl,g,e⟩:=h;simp[DV.qel g,m e]
theorem DV.qbH{x v:DV}(h:x.fit v):v.cells.length=x.cells.length:=(DV.qao (DV.qa5 h)).symm
variable{v:AV}
theorem AV.qel{x:AV}(h:x.fit v):v.isCell=x.isCell:=by
 cases x<;>simp only[AV.fit]at h
 case d x=>obtain⟨y,rfl,e⟩:=h;exact DV.qel e
 case ep=>obtain⟨_,rfl,_⟩:=h;rfl
 case fn=>obtain⟨_,rfl,_⟩:=h;rfl
 case bsl=>obtain⟨_,rfl⟩:=h;rfl
 case ag=>obtain⟨_,rfl,_⟩:=h;rfl
 all_goals subst h;rfl
theorem AV.qbB{xs vs:aA}(h:AV.fits xs vs):vs.all AV.isCell=xs.all AV.isCell:=by
 induction xs generalizing vs with
 |nil=>simp only[AV.fits]at h;subst h;rfl
 |cons x xs m=>simp only[AV.fits]at h;obtain⟨v,r,rfl,g,e⟩:=h;simp[AV.qel g,m e]
theorem AV.qiY(h:DV.fits xs vs):AV.fits (xs.map .d) (vs.map .d):=by
 induction xs generalizing vs with
 |nil=>simp only[DV.fits]at h;subst h;simp[AV.fits]
 |cons x xs m=>simp only[DV.fits]at h;obtain⟨v,r,rfl,g,e⟩:=h;simp only[bA,AV.fits];exact⟨_,_,rfl,by simp only[AV.fit];exact⟨_,rfl,g⟩,m e⟩
theorem AV.qiW:AV.owns (xs.map .d) (vs.map .d)=DV.owns xs vs:=by
 induction xs generalizing vs with
 |nil=>simp[AV.owns,DV.owns]
 |cons x xs e=>cases vs<;>simp[AV.owns,DV.owns,AV.own,e]
theorem AV.qeg{x:AV}(h:x.fit v):AV.fits [x] [v]:=by simp only[AV.fits];exact⟨_,_,rfl,h,rfl⟩
theorem AV.qa5{x:AV}(h:x.fit v):AV.fits x.cells v.cells:=by
 have m:=h;cases x<;>simp only[AV.fit]at h
 case d x=>
  obtain⟨y,rfl,e⟩:=h;cases x<;>simp only[DV.fit]at e
  case agg cs=>obtain⟨ds,rfl,e⟩:=e;exact AV.qiY e
  case sl g xs=>obtain⟨g',ys,rfl,r,q⟩:=e;exact AV.qeg m
  case tup cs=>obtain⟨ds,rfl,e⟩:=e;exact AV.qeg m
  all_goals subst e;exact AV.qeg m
 case ep=>obtain⟨_,rfl,_⟩:=h;exact AV.qeg m
 case fn=>obtain⟨_,rfl,_⟩:=h;exact AV.qeg m
 case bsl=>obtain⟨_,rfl⟩:=h;exact AV.qeg m
 case ag t cs=>
  obtain⟨_,rfl,e,_⟩:=h;cases t with
  |false=>exact e
  |true=>exact AV.qeg m
 all_goals subst h;exact AV.qeg m
theorem AV.qdy{x:AV}(h:x.fit v):AV.owns x.cells v.cells=x.own v:=by
 cases x<;>simp only[AV.fit]at h
 case d x=>
  obtain⟨y,rfl,e⟩:=h;cases x<;>simp only[DV.fit]at e
  case agg cs=>obtain⟨ds,rfl,e⟩:=e;simp[AV.cells,AV.own,DV.own,AV.qiW]
  case sl g xs=>obtain⟨g',ys,rfl,r,q⟩:=e;simp[AV.cells,AV.owns]
  case tup cs=>obtain⟨ds,rfl,e⟩:=e;simp[AV.cells,AV.owns]
  all_goals subst e;simp[AV.cells,AV.owns]
 case ep=>obtain⟨_,rfl,_⟩:=h;simp[AV.cells,AV.owns]
 case fn=>obtain⟨_,rfl,_⟩:=h;simp[AV.cells,AV.owns]
 case bsl=>obtain⟨_,rfl⟩:=h;simp[AV.cells,AV.owns]
 case ag t cs=>
  obtain⟨_,rfl,e,m⟩:=h;cases t with
  |false=>simp[AV.cells,AV.own,m]
  |true=>simp[AV.cells,AV.owns]
 all_goals subst h;simp[AV.cells,AV.owns]
theorem AV.qbH{x:AV}(h:x.fit v):v.cells.length=x.cells.length:=(AV.qao (AV.qa5 h)).symm
mutual
theorem AV.qcN:∀(x v:AV),x.fit v->x.clr.fit v
 | .d x,v,h=>by
  simp only[AV.fit,AV.clr]at h⊢
  obtain⟨y,rfl,e⟩:=h;exact⟨y,rfl,DV.qcN _ _ e⟩
 | .ep cs,v,h=>by
  simp only[AV.fit,AV.clr]at h⊢
  obtain⟨ds,rfl,e⟩:=h;exact⟨ds,rfl,DV.qbm _ _ e⟩
 | .fn f cap,v,h=>by
  simp only[AV.fit,AV.clr]at h⊢
  obtain⟨ds,rfl,e,_⟩:=h;obtain⟨g,m⟩:=AV.qbm cap ds e;exact⟨ds,rfl,g,m⟩
 | .ptr i o,v,h=>by simpa only[AV.clr]using h
 | .nilp,v,h=>by simpa only[AV.clr]using h
 | .bsl id a i sz n,v,h=>by simpa only[AV.clr]using h
 | .tsl a i sz n,v,h=>by simpa only[AV.clr]using h
 | .ag t cap,v,h=>by
  simp only[AV.fit,AV.clr]at h⊢
  obtain⟨ds,rfl,e,_⟩:=h;obtain⟨g,m⟩:=AV.qbm cap ds e;exact⟨ds,rfl,g,m⟩
 | .und,v,h=>by simpa only[AV.clr]using h
theorem AV.qbm:∀(xs vs:aA),AV.fits xs vs->AV.fits (AV.clrs xs) vs/\AV.owns (AV.clrs xs) vs=[]
 | [],vs,h=>by simp only[AV.fits,AV.clrs,AV.owns]at h⊢;exact⟨h,trivial⟩
 |x::xs,vs,h=>by
  simp only[AV.fits,AV.clrs]at h⊢
  obtain⟨v,vs,rfl,g,e⟩:=h;obtain⟨q,m⟩:=AV.qbm xs vs e;refine⟨⟨v,vs,rfl,AV.qcN x v g,q⟩,?_⟩;simp only[AV.owns,m,dB];cases x<;>cases v<;>simp[AV.clr,AV.own,DV.qbL,DV.qef]
end
theorem AV.qbL(x v:AV):x.clr.own v=[]:=by cases x<;>cases v<;>simp[AV.clr,AV.own,DV.qbL,DV.qef]
mutual
theorem AV.qkV(m:Nat):∀(x v:AV),x.fit v->v.safe m=x.safe m
 | .d x,v,h=>by simp only[AV.fit]at h;obtain⟨y,rfl,_⟩:=h;unfold AV.safe;rfl
 | .ep cs,v,h=>by simp only[AV.fit]at h;obtain⟨y,rfl,_⟩:=h;unfold AV.safe;rfl
 | .fn f cap,v,h=>by simp only[AV.fit]at h;obtain⟨y,rfl,e,_⟩:=h;rw[AV.safe,AV.safe];exact AV.qmO m cap y e
 | .ptr i o,v,h=>by simp only[AV.fit]at h;subst h;rfl
 | .nilp,v,h=>by simp only[AV.fit]at h;subst h;rfl
 | .bsl id a i sz n,v,h=>by simp only[AV.fit]at h;obtain⟨_,rfl⟩:=h;unfold AV.safe;rfl
 | .tsl a i sz n,v,h=>by simp only[AV.fit]at h;subst h;rfl
 | .ag t cap,v,h=>by simp only[AV.fit]at h;obtain⟨y,rfl,e,_⟩:=h;rw[AV.safe,AV.safe];exact AV.qmO m cap y e
 | .und,v,h=>by simp only[AV.fit]at h;subst h;rfl
theorem AV.qmO(m:Nat):∀(xs vs:aA),AV.fits xs vs->AV.safe.safes m vs=AV.safe.safes m xs
 | [],vs,h=>by simp only[AV.fits]at h;subst h;rfl
 |x::xs,vs,h=>by simp only[AV.fits]at h;obtain⟨v,vs,rfl,g,e⟩:=h;rw[AV.safe.safes,AV.safe.safes,AV.qkV m x v g,AV.qmO m xs vs e]
end
mutual
theorem DV.qhI:∀x:DV,x.clr.clr=x.clr
 | .sl g xs=>by simp only[DV.clr,DV.qcY xs]
 | .agg cs=>by simp only[DV.clr,DV.qcY cs]
 | .tup cs=>by simp only[DV.clr,DV.qcY cs]
 | .int k n=>by simp only[DV.clr]
 | .bool b=>by simp only[DV.clr]
 | .str s=>by simp only[DV.clr]
theorem DV.qcY:∀l:al,DV.clrs (DV.clrs l)=DV.clrs l
 | []=>by simp only[DV.clrs]
 |x::xs=>by simp only[DV.clrs,DV.qhI x,DV.qcY xs]
end
mutual
theorem AV.qhI:∀x:AV,x.clr.clr=x.clr
 | .d x=>by simp only[AV.clr,DV.qhI]
 | .ep cs=>by simp only[AV.clr,DV.qcY]
 | .fn f cap=>by simp only[AV.clr,AV.qcY cap]
 | .ptr i o=>by simp only[AV.clr]
 | .nilp=>by simp only[AV.clr]
 | .bsl id a i sz n=>by simp only[AV.clr]
 | .tsl a i sz n=>by simp only[AV.clr]
 | .ag t cap=>by simp only[AV.clr,AV.qcY cap]
 | .und=>by simp only[AV.clr]
theorem AV.qcY:∀l:aA,AV.clrs (AV.clrs l)=AV.clrs l
 | []=>by simp only[AV.clrs]
 |x::xs=>by simp only[AV.clrs,AV.qhI x,AV.qcY xs]
end
mutual
theorem AV.qbn:∀(x:AV),x.clr.fit x
 | .d x=>by simp only[AV.fit,AV.clr];exact⟨_,rfl,DV.qbn x⟩
 | .ep cs=>by simp only[AV.fit,AV.clr];exact⟨_,rfl,DV.qcX _⟩
 | .fn f cap=>by simp only[AV.fit,AV.clr];exact⟨_,rfl,AV.qcX cap,(AV.qmP cap)⟩
 | .ptr i o=>by simp[AV.fit,AV.clr]
 | .nilp=>by simp[AV.fit,AV.clr]
 | .bsl id a i sz n=>by simp[AV.fit,AV.clr]
 | .tsl a i sz n=>by simp[AV.fit,AV.clr]
 | .ag t cap=>by simp only[AV.fit,AV.clr];exact⟨_,rfl,AV.qcX cap,(AV.qmP cap)⟩
 | .und=>by simp[AV.fit,AV.clr]
theorem AV.qcX:∀(xs:aA),AV.fits (AV.clrs xs) xs
 | []=>by simp[AV.fits,AV.clrs]
 |x::xs=>by simp only[AV.fits,AV.clrs];exact⟨_,_,rfl,AV.qbn x,AV.qcX xs⟩
theorem AV.qmP:∀(xs:aA),AV.owns (AV.clrs xs) xs=[]
 | []=>by simp[AV.owns,AV.clrs]
 |x::xs=>by simp only[AV.owns,AV.clrs];rw[AV.qbL,AV.qmP xs];rfl
end
theorem DV.qIf(v:DV):v.cn1.fit v:=by
 unfold DV.cn1;split
 ·simp only[DV.fit,DV.fits];exact⟨_,_,rfl,rfl,.inr ⟨rfl,.inl ⟨rfl,.inl rfl⟩⟩⟩
 ·exact DV.qbn _
theorem DV.qIe(v w:DV):v.cn1.own w=[]:=by
 unfold DV.cn1;split
 ·cases w<;>simp[DV.own,DV.owns]
 ·exact DV.qbL _ _
theorem DV.qiZ:∀l:al,DV.fits (l.map DV.cn1) l
 | []=>by simp[DV.fits]
 |x::xs=>by simp only[bA,DV.fits];exact⟨_,_,rfl,DV.qIf x,DV.qiZ xs⟩
theorem DV.qg8:∀l m:al,DV.owns (l.map DV.cn1) m=[]
 | [],m=>by simp[DV.owns]
 |x::xs,m=>by cases m<;>simp[DV.owns,DV.qIe,DV.qg8 xs]
theorem DV.qsW(v:DV):v.cn.fit v:=by
 unfold DV.cn;split
 ·simp only[DV.fit];exact⟨_,rfl,DV.qiZ _⟩
 ·exact DV.qIf _
theorem DV.qId(v w:DV):v.cn.own w=[]:=by
 unfold DV.cn;split
 ·cases w<;>simp[DV.own,DV.qg8]
 ·exact DV.qIe _ _
theorem DV.qdA(e:DV):e.clr.cells=DV.clrs e.cells:=by cases e<;>simp[DV.clr,DV.cells,DV.clrs]
theorem DV.qc9(l:al):(DV.clrs l).length=l.length:=by simp[DV.qaw]
theorem AV.qc9(l:aA):(AV.clrs l).length=l.length:=by simp[AV.qaw]
def gL(rx rv:aE):Prop:=∀t x,lk rx t=some x->∃v,lk rv t=some v/\x.clr.fit v
variable{x:VX}{rx rv:aE}
theorem lX(h:gL rx rv){a:AV}(e:x.get rx=some a):∃v,x.get rv=some v/\a.clr.fit v:=by
 cases x with
 |t n=>exact h n a e
 |c v=>simp[VX.get]at e⊢;subst e;exact AV.qbn _
theorem nz(h:gL rx rv){a:DV}(m:x.get rx=some (.d a)):∃v,x.get rv=some (.d v)/\a.clr.fit v:=by obtain⟨v,q,e⟩:=lX h m;simp only[AV.clr,AV.fit]at e;obtain⟨y,rfl,g⟩:=e;exact⟨y,q,g⟩
theorem mD(h:gL rx rv){k:IntKind}{n:Int}(g:x.get rx=some (.d (.int k n))):x.get rv=some (.d (.int k n)):=by obtain⟨v,m,e⟩:=nz h g;simp only[DV.clr,DV.fit]at e;subst e;exact m
theorem Dk(h:gL rx rv){b:Bool}(g:x.get rx=some (ax b)):x.get rv=some (ax b):=by obtain⟨v,m,e⟩:=nz h g;simp only[DV.clr,DV.fit]at e;subst e;exact m
theorem Ga(h:gL rx rv){b:ByteArray}(g:x.get rx=some (.d (.str b))):x.get rv=some (.d (.str b)):=by obtain⟨v,m,e⟩:=nz h g;simp only[DV.clr,DV.fit]at e;subst e;exact m
variable{l:al}
theorem BQ(h:gL rx rv){g:Tag}(m:x.get rx=some (.d (.sl g l))):∃g' ys,x.get rv=some (.d (.sl g' ys))/\DV.fits (DV.clrs l) ys:=by obtain⟨v,q,e⟩:=nz h m;simp only[DV.clr,DV.fit]at e;obtain⟨g',ys,rfl,r,_⟩:=e;exact⟨g',ys,q,r⟩
theorem Hn(h:gL rx rv)(g:x.get rx=some (.d (.agg l))):∃ys,x.get rv=some (.d (.agg ys))/\DV.fits (DV.clrs l) ys:=by obtain⟨v,m,e⟩:=nz h g;simp only[DV.clr,DV.fit]at e;obtain⟨ys,rfl,q⟩:=e;exact⟨ys,m,q⟩
variable{o:Nat}
theorem DZ(h:gL rx rv)(g:x.get rx=some (.ptr i o)):x.get rv=some (.ptr i o):=by obtain⟨v,m,e⟩:=lX h g;simp only[AV.clr,AV.fit]at e;subst e;exact m
variable{n:Nat}
theorem Il(h:gL rx rv){a:Bool}{s:Nat}(g:x.get rx=some (.tsl a i s n)):x.get rv=some (.tsl a i s n):=by obtain⟨v,m,e⟩:=lX h g;simp only[AV.clr,AV.fit]at e;subst e;exact m
theorem JX(h:gL rx rv){id:Id}{a:Bool}{s:Nat}(q:x.get rx=some (.bsl id a i s n)):∃e,x.get rv=some (.bsl e a i s n):=by obtain⟨v,m,g⟩:=lX h q;simp only[AV.clr,AV.fit]at g;obtain⟨e,rfl⟩:=g;exact⟨e,m⟩
theorem EW(h:gL rx rv)(g:x.get rx=some (.ep l)):∃ys,x.get rv=some (.ep ys)/\DV.fits (DV.clrs l) ys:=by obtain⟨v,m,e⟩:=lX h g;simp only[AV.clr,AV.fit]at e;obtain⟨ys,rfl,q⟩:=e;exact⟨ys,m,q⟩
theorem UX{op:BinOp}{a b c a' g:DV}(m:a.clr.fit a')(e:b.clr.fit g)(h:fV op a b=some c):fV op a' g=some c:=by cases a<;>cases b<;>simp only[fV]at h<;>(first|(simp at h;done)|skip)<;>simp only[DV.clr,DV.fit]at m e<;>subst m<;>subst e<;>exact h
theorem qAh:∀(ks:ae) (a b a' m:al),DV.fits (DV.clrs a) a'->DV.fits (DV.clrs b) m->∀r,eB ks a b=some r->eB ks a' m=some r:=by
 intro ks a b
 fun_induction eB ks a b<;>intro a' m u q r h<;>(first|(simp at h;done)|skip)
 all_goals simp only[DV.clrs,DV.fits]at u q
 case case1=>subst u;subst q;exact h
 all_goals
  obtain⟨v,vs,rfl,C,w⟩:=u;obtain⟨v',G,rfl,g,e⟩:=q;simp only[DV.clr,DV.fit]at C g;subst C;subst g
  simp_all[eB]
  try (obtain⟨c,H,I⟩:=h;rename_i D;rcases c with c|c;(exact .inl ((D _ _ w e).1 c));(exact .inr ((D _ _ w e).2 c)))
theorem PT:∀(a a':al),DV.fits (DV.clrs a) a'->∀r,bytesOf a=some r->bytesOf a'=some r:=by
 intro a
 fun_induction bytesOf a<;>intro a' e r h<;>(first|(simp at h;done)|skip)
 all_goals simp only[DV.clrs,DV.fits]at e
 case case1=>subst e;exact h
 all_goals
  obtain⟨v,vs,rfl,g,m⟩:=e;simp only[DV.clr,DV.fit]at g;subst g;rename_i w;obtain⟨q,u,rfl⟩:=ay.1 h;simp[bytesOf,w _ m _ u]
theorem Ji(h:gL rx rv):∀{xs:cm} {as:aA},di rx xs=some as->∃vs,di rv xs=some vs/\AV.fits (AV.clrs as) vs
 | [],as,e=>by simp[di]at e;subst e;exact⟨[],rfl,by simp[AV.clrs,AV.fits]⟩
 |x::xs,as,e=>by simp only[di]at e;obtain⟨a,u,g⟩:=az.1 e;obtain⟨D,q,rfl⟩:=ay.1 g;obtain⟨v,C,w⟩:=lX h u;obtain⟨vs,r,m⟩:=Ji h q;exact⟨v::vs,by simp[di,C,r],by simp only[AV.clrs,AV.fits];exact⟨_,_,rfl,w,m⟩⟩
theorem oC(h:gL rx rv){x:iq}{a:bc}(g:dz rx x=some a):∃v,dz rv x=some v/\v.bind j8=a.bind j8/\(v=none↔a=none):=by
 cases x with
 |none=>simp[dz]at g;subst g;exact⟨none,rfl,rfl,Iff.rfl⟩
 |some x=>
  simp only[dz]at g⊢
  obtain⟨a',q,rfl⟩:=ay.1 g;obtain⟨v,m,e⟩:=lX h q;refine⟨some v,by simp[m],?_,by simp⟩;simp only[a9];cases a' with
  |d w=>
   cases w<;>simp only[AV.clr,DV.clr,AV.fit,DV.fit]at e
   case int k n=>obtain⟨y,rfl,rfl⟩:=e;rfl
   case sl=>obtain⟨y,rfl,_,_,rfl,_⟩:=e;rfl
   case agg=>obtain⟨y,rfl,_,rfl,_⟩:=e;rfl
   case tup=>obtain⟨y,rfl,_,rfl,_⟩:=e;rfl
   all_goals obtain⟨y,rfl,rfl⟩:=e;rfl
  |ep=>simp only[AV.clr,AV.fit]at e;obtain⟨_,rfl,_⟩:=e;rfl
  |fn=>simp only[AV.clr,AV.fit]at e;obtain⟨_,rfl,_⟩:=e;rfl
  |bsl=>simp only[AV.clr,AV.fit]at e;obtain⟨_,rfl⟩:=e;rfl
  |ag=>simp only[AV.clr,AV.fit]at e;obtain⟨_,rfl,_⟩:=e;rfl
  |_=>simp only[AV.clr,AV.fit]at e;subst e;rfl
theorem Fz{a v:bc}(h:v.bind j8=a.bind j8)(h':v=none↔a=none)(n:Nat):fk n v=fk n a:=by
 cases a<;>cases v<;>simp at h h'
 ·rfl
 ·simp only[fk,h]
theorem Em{a v:bc}(h:v.bind j8=a.bind j8)(h':v=none↔a=none)(n:Nat):fj n v=fj n a:=by
 cases a<;>cases v<;>simp at h h'
 ·rfl
 ·simp only[fj,h]
def VOp.gen:VOp->Bool
 | .nilCheck _| .bin _ _ _| .eqAgg _ _ _ _| .eqB _ _ _| .not _| .conv _ _| .index _ _| .indexAddr _ _ _ _| .fieldAddr _ _| .slice _ _ _ _ _| .makeFunc _ _| .len _ _| .fail=>true
 |_=>false
variable{sz:Nat}
theorem Iz(h:DV.fits (DV.clrs xs) ys)(m:xs.all (fun e=>decide (e.cells.length=sz))=true):ys.all (fun e=>decide (e.cells.length=sz))=true:=by
 simp only[bB,bu]at m⊢
 intro e w;obtain⟨i,hi⟩:=dH.1 w;obtain⟨q,r⟩:=(DV.qbl _ _).1 h;rw[DV.qc9]at q;have g:i<xs.length:=by rw[q];exact(aU.1 hi).1
 have u:=r i (xs[i].clr) e (by simp[DV.qaw,g]) hi;rw[DV.qbH u,DV.qdA,DV.qc9];exact m _ (jt g)
theorem TM(h:gL rx rv){op:VOp}(hg:op.gen=true){a:AV}(q:aK rx op=some a):∃v,aK rv op=some v/\a.clr.fit v:=by
 cases op<;>simp only[VOp.gen]at hg<;>(first|(simp at hg;done)|skip)
 case nilCheck x=>
  simp only[aK]at q⊢
  split at q<;>(first|(simp at q;done)|skip)<;>rename_i r<;>simp at q<;>subst q
  ·rw[DZ h r];exact⟨_,rfl,AV.qbn _⟩
  ·obtain⟨ys,w,u⟩:=EW h r;rw[w]
   exact⟨_,rfl,by simp only[AV.clr,AV.fit];exact⟨_,rfl,u⟩⟩
  ·obtain⟨v,w,u⟩:=lX h r
   have Q:=u;simp only[AV.clr,AV.fit]at Q;obtain⟨c,rfl,_⟩:=Q
   rw[w];exact⟨_,rfl,u⟩
 case bin op x y=>
  simp only[aK]at q⊢
  split at q<;>(first|(simp at q;done)|skip)
  rename_i a1 W r w;obtain⟨c,u,rfl⟩:=ay.1 q;obtain⟨v1,C,D⟩:=nz h r;obtain⟨v2,M,I⟩:=nz h w;rw[C,M];simp only[UX D I u,bH];exact⟨_,rfl,AV.qbn _⟩
 case eqAgg neg ks x y=>
  simp only[aK]at q⊢
  split at q<;>(first|(simp at q;done)|skip)
  rename_i a1 W r w;obtain⟨c,u,rfl⟩:=ay.1 q;obtain⟨v1,C,D⟩:=Hn h r;obtain⟨v2,M,I⟩:=Hn h w;rw[C,M];simp only[qAh _ _ _ _ _ D I _ u,bH];exact⟨_,rfl,AV.qbn _⟩
 case eqB neg x y=>
  simp only[aK]at q⊢
  split at q<;>(first|(simp at q;done)|skip)
  rename_i a1 W r w;simp at q;subst q
  rw[Dk h r,Dk h w];exact⟨_,rfl,AV.qbn _⟩
 case not x=>
  simp only[aK]at q⊢
  split at q<;>(first|(simp at q;done)|skip)
  rename_i W r;simp at q;subst q
  rw[Dk h r];exact⟨_,rfl,AV.qbn _⟩
 case conv c x=>
  cases c with
  |kind k=>
   simp only[aK]at q⊢
   split at q<;>(first|(simp at q;done)|skip)
   rename_i k1 n1 r;simp at q;subst q
   rw[mD h r];exact⟨_,rfl,AV.qbn _⟩
  |rune=>
   simp only[aK]at q⊢
   split at q<;>(first|(simp at q;done)|skip)
   rename_i k1 n1 r;simp at q;subst q
   rw[mD h r];exact⟨_,rfl,AV.qbn _⟩
  |bytes=>
   simp only[aK]at q⊢
   split at q<;>(first|(simp at q;done)|skip)
   rename_i g1 l1 r;obtain⟨c,u,rfl⟩:=ay.1 q;obtain⟨g',ys,C,D⟩:=BQ h r;rw[C];simp only[PT _ _ D _ u,bH];exact⟨_,rfl,AV.qbn _⟩
 case index x i=>
  simp only[aK]at q⊢
  split at q<;>(first|(simp at q;done)|skip)
  rename_i s k n r w;rw[Ga h r,mD h w];simp only;split at q
  ·rename_i u
   rw[aw u];obtain⟨b,C,rfl⟩:=ay.1 q;rw[C];exact⟨_,rfl,AV.qbn _⟩
  ·simp at q
 case indexAddr sz arr x i=>
  cases arr with
  |none=>
   simp only[aK]at q⊢
   split at q
   ·rename_i g l k n r w
    obtain⟨g',ys,C,D⟩:=BQ h r;rw[C,mD h w];simp only;split at q
    ·rename_i u
     rw[aw u];obtain⟨e,M,I⟩:=az.1 q;split at I
     ·rename_i O
      simp at I;subst I
      obtain⟨e',P,H⟩:=DV.qce D (x:=e.clr) (i:=n.toNat) (by simp[DV.qaw,M]);have G:e'.cells.length=sz:=by rw[DV.qbH H,DV.qdA,DV.qc9];exact O.1
      rw[P];simp only[a9,G,O.2,fw,jT,re,if_true];have J:=DV.qa5 H;rw[DV.qdA]at J;exact⟨_,rfl,by simp only[AV.clr,AV.fit];exact⟨_,rfl,J⟩⟩
     ·simp at I
    ·simp at q
   ·rename_i id ag b s' m k n r w
    obtain⟨S,C⟩:=JX h r;rw[C,mD h w];simp only;split at q
    ·rename_i u
     rw[aw u];simp at q;subst q
     exact⟨_,rfl,AV.qbn _⟩
    ·simp at q
   ·rename_i ag b s' m k n r w
    rw[Il h r,mD h w];simp only;split at q
    ·rename_i u
     rw[aw u];simp at q;subst q
     exact⟨_,rfl,AV.qbn _⟩
    ·simp at q
   ·simp at q
  |some m=>
   simp only[aK]at q⊢
   split at q
   ·rename_i b o k n r w
    rw[DZ h r,mD h w];simp only;split at q
    ·rename_i u
     rw[aw u];simp at q;subst q
     exact⟨_,rfl,AV.qbn _⟩
    ·simp at q
   ·rename_i l k n r w
    obtain⟨ys,C,D⟩:=EW h r;rw[C,mD h w];simp only;have K:=DV.qao D;rw[DV.qc9]at K;split at q
    ·rename_i u
     rw[aw (by omega)];simp at q;subst q
     refine⟨_,rfl,?_⟩;simp only[AV.clr,AV.fit];have:=DV.qbC D (n.toNat*sz);rw[DV.qaw,<-List.map_drop,<-DV.qaw]at this;exact⟨_,rfl,this⟩
    ·simp at q
   ·simp at q
 case fieldAddr off x=>
  simp only[aK]at q⊢
  split at q
  ·rename_i b o r
   rw[DZ h r];simp at q;subst q
   exact⟨_,rfl,AV.qbn _⟩
  ·rename_i l r
   obtain⟨ys,C,D⟩:=EW h r;rw[C];simp only;have K:=DV.qao D;rw[DV.qc9]at K;split at q
   ·rename_i u
    rw[aw (by omega)];simp at q;subst q
    refine⟨_,rfl,?_⟩;simp only[AV.clr,AV.fit];have:=DV.qbC D off;rw[DV.qaw,<-List.map_drop,<-DV.qaw]at this;exact⟨_,rfl,this⟩
   ·simp at q
  ·simp at q
 case slice str sz x lo hi=>
  cases str with
  |true=>
   simp only[aK]at q⊢
   split at q<;>(first|(simp at q;done)|skip)
   rename_i s l' h' r w u;obtain⟨vl,C,D,M⟩:=oC h w;obtain⟨vh,I,O,P⟩:=oC h u;rw[Ga h r,C,I];simp only;rw[Fz O P];obtain⟨hh,H,G⟩:=az.1 q;rw[H];simp only[a9];rw[Em D M];rw[G];obtain⟨ll,_,rfl⟩:=ay.1 G;exact⟨_,rfl,AV.qbn _⟩
  |false=>
   simp only[aK]at q⊢
   split at q<;>(first|(simp at q;done)|skip)
   rename_i g xs l' h' r w u;obtain⟨vl,C,D,M⟩:=oC h w;obtain⟨vh,I,O,P⟩:=oC h u;obtain⟨g',ys,J,N⟩:=BQ h r;rw[J,C,I];simp only;have K:=DV.qao N;rw[DV.qc9]at K;split at q
   ·rename_i Z
    rw[aw (Iz N Z),Fz O P];obtain⟨hh,H,G⟩:=az.1 q;rw[<-K,H];simp only[a9];rw[Em D M];obtain⟨ll,R,rfl⟩:=ay.1 G;rw[R];refine⟨_,rfl,?_⟩;simp only[AV.clr,DV.clr,AV.fit,DV.fit];refine⟨_,rfl,_,_,rfl,?_,.inl rfl⟩;have:=DV.qbC (DV.qbr N hh) ll;rw[DV.qaw,<-List.map_take,<-List.map_drop,<-DV.qaw]at this;exact this
   ·simp at q
 case makeFunc f cs=>
  simp only[aK]at q⊢
  obtain⟨vs,r,rfl⟩:=ay.1 q;obtain⟨ws,w,u⟩:=Ji h r;rw[w];refine⟨_,rfl,?_⟩;simp only[AV.clr,AV.fit];have:=AV.qbm _ _ u;refine⟨_,rfl,u,?_⟩;have Y:∀l:aA,AV.clrs (AV.clrs l)=AV.clrs l:=by
   intro l;simp only[AV.qaw,et]
   congr 1
   funext x
   exact AV.qhI x
  rw[<-Y];exact this.2
 case len str x=>
  cases str with
  |true=>
   simp only[aK]at q⊢
   split at q<;>(first|(simp at q;done)|skip)
   rename_i s r;simp at q;subst q
   rw[Ga h r];exact⟨_,rfl,AV.qbn _⟩
  |false=>
   simp only[aK]at q⊢
   split at q<;>(first|(simp at q;done)|skip)
   ·rename_i g xs r
    simp at q;subst q
    obtain⟨g',ys,C,D⟩:=BQ h r;have K:=DV.qao D;rw[DV.qc9]at K;rw[C,K];exact⟨_,rfl,AV.qbn _⟩
   ·rename_i r
    simp at q;subst q
    obtain⟨S,C⟩:=JX h r;rw[C];exact⟨_,rfl,AV.qbn _⟩
   ·rename_i r
    simp at q;subst q
    rw[Il h r];exact⟨_,rfl,AV.qbn _⟩
 case fail=>simp[aK]at q
open Classical
inductive Loc where
 |reg (t:Nat)
 |box (i:Nat)
def bp(B Bv:ar)(i:Nat):eq:=
 match aT B i,aT Bv i with
 |some cs,some ds=>AV.owns cs ds
 |_,_=>[]
def br(rx rv:aE)(t:Nat):eq:=
 match lk rx t,lk rv t with
 |some x,some v=>x.own v
 |_,_=>[]
def aI(rx:aE)(B:ar)(rv:aE)(Bv:ar):Loc->eq
 | .reg t=>br rx rv t
 | .box i=>bp B Bv i
def Fut(p:Id)(k:Nat)(a:Id):Prop:=∃q j,k<=j/\a=q++j::p
variable{a p:Id}{k k':Nat}
theorem Fut.le(h:k<=k')(m:Fut p k' a):Fut p k a:=by obtain⟨q,j,g,e⟩:=m;exact⟨q,j,cT h g,e⟩
theorem Fut.sub{c:Nat}(g:Fut ((c+i)::p) 0 a):Fut p (c+i) a:=by obtain⟨q,j,h,e⟩:=g;exact⟨q++[j],c+i,bf _,by rw[e];simp⟩
theorem Fut.qiX{c:Nat}(D:c+i<k)(r:Fut ((c+i)::p) 0 a):¬Fut p k a:=by
 obtain⟨q,j,w,g⟩:=r
 rintro⟨C,u,G,e⟩
 rw[g]at e;have m:q++j::(c+i)::p=(q++[j])++((c+i)::p):=by simp
 rw[m]at e;obtain⟨_,h⟩:=rp e (by simp);simp at h;omega
theorem Fut.self(p:Id)(k:Nat):Fut p k (k::p):=⟨[],k,bf _,rfl⟩
theorem Fut.qkT(h:k<k'):¬Fut p k' (k::p):=by
 rintro⟨q,j,r,e⟩
 have g:k::p=[]++(k::p):=rfl;rw[g]at e;obtain⟨_,m⟩:=rp e (by simp);simp at m;omega
structure Held(F Fu:Id->Prop)(A:Ids)(own:Loc->eq):Prop where
 nodup:∀ℓ,(own ℓ).Nodup
 apart:∀ℓ ℓ' a,a∈own ℓ->a∈own ℓ'->ℓ=ℓ'
 opn:∀ℓ a,a∈own ℓ->A a=true/\¬F a/\¬Fu a
 fr:∀a,F a->A a=true/\¬Fu a
variable{own':Loc->eq}{A A':Ids}{F Fu Fu':Id->Prop}
theorem Held.set{own:Loc->eq}(h:Held F Fu A own)(ℓ0:Loc)
 (e:∀ℓ,ℓ≠ℓ0->(own' ℓ).Sublist (own ℓ)) (G:(own' ℓ0).Nodup)
 (q:∀a,a∈own' ℓ0->A' a=true/\¬F a/\¬Fu' a/\∀ℓ,ℓ≠ℓ0->a∉own' ℓ)
 (J:∀ℓ,ℓ≠ℓ0->∀a,a∈own' ℓ->A' a=true) (I:∀a,F a->A' a=true) (w:∀a,Fu' a->Fu a):Held F Fu' A' own':=by
 refine⟨fun ℓ=> ?_,fun ℓ ℓ' a r u=> ?_,fun ℓ a r=> ?_,fun a r=>⟨I a r,fun H=>(h.fr a r).2 (w a H)⟩⟩
 ·by_cases m:ℓ=ℓ0
  ·subst m;exact G
  ·exact(h.nodup ℓ).sublist (e ℓ m)
 ·by_cases m:ℓ=ℓ0
  ·by_cases g:ℓ'=ℓ0
   ·rw[m,g]
   ·subst m
    exact absurd u ((q a r).2.2.2 ℓ' g)
  ·by_cases g:ℓ'=ℓ0
   ·subst g
    exact absurd r ((q a u).2.2.2 ℓ m)
   ·exact h.apart ℓ ℓ' a ((e ℓ m).subset r) ((e ℓ' g).subset u)
 ·by_cases m:ℓ=ℓ0
  ·subst m
   obtain⟨K,C,D,_⟩:=q a r;exact⟨K,C,D⟩
  ·obtain⟨_,C,D⟩:=h.opn ℓ a ((e ℓ m).subset r)
   exact⟨J ℓ m a r,C,fun H=>D (w a H)⟩
theorem Held.shrink{own:Loc->eq}(h:Held F Fu A own)
 (e:∀ℓ,(own' ℓ).Sublist (own ℓ)) (C:∀a,A a=true->(F a\/∃ℓ,a∈own' ℓ)->A' a=true) (m:∀a,Fu' a->Fu a):Held F Fu' A' own':=by
 refine⟨fun ℓ=>(h.nodup ℓ).sublist (e ℓ),fun ℓ ℓ' a g u=>h.apart ℓ ℓ' a ((e ℓ).subset g) ((e ℓ').subset u),fun ℓ a g=> ?_,fun a g=> ?_⟩
 ·obtain⟨r,q,D⟩:=h.opn ℓ a ((e ℓ).subset g)
  exact⟨C a r (.inr ⟨ℓ,g⟩),q,fun w=>D (m a w)⟩
 ·obtain⟨r,q⟩:=h.fr a g
  exact⟨C a r (.inl g),fun w=>q (m a w)⟩
def qbe(B Bv:ar):Prop:=B.length=Bv.length/\∀i:Nat,(B[i]?=some none->Bv[i]?=some none)/\∀cs,B[i]?=some (some cs)->∃ds,Bv[i]?=some (some ds)/\AV.fits cs ds
structure Rel(A0:Ids)(T:ae)(F:Id->Prop)(p:Id)(k:Nat)(sx:XS)(sv:St):Prop where
 regs:∀t x,lk sx.r t=some x->∃v,lk sv.r t=some v/\x.fit v
 boxes:qbe sx.B sv.B
 held:Held F (Fut p k) sv.A (aI sx.r sx.B sv.r sv.B)
 nl:∀t,T.contains t=false->br sx.r sv.r t=[]
 no:∀t,lk sx.r t=none->lk sv.r t=none
 am:∀a,sv.A a=true->¬Fut p k a/\(A0 a=true\/Fut p 0 a)
variable{Bv:ar}
theorem qbe.free{B:ar}(h:qbe B Bv)(i:Nat):cO Bv i=cO B i:=by
 obtain⟨m,e⟩:=h;unfold cO;cases hb:B[i]? with
 |none=>
  have:Bv[i]?=none:=by have:=Ak.1 hb;exact gU (by omega)
  simp[this]
 |some o=>cases o with
  |none=>rw[(e i).1 hb]
  |some cs=>obtain⟨ds,g,_⟩:=(e i).2 cs hb;rw[g]
variable{cs:aA}
theorem jz{B:ar}:aT B i=some cs↔B[i]?=some (some cs):=by
 unfold aT;split
 ·rename_i h;simp[h]
 ·rename_i h;constructor
  ·simp
  ·intro h';exact absurd h' (h cs)
theorem qbe.get{B:ar}(h:qbe B Bv)(e:aT B i=some cs):∃ds,aT Bv i=some ds/\AV.fits cs ds:=by obtain⟨ds,m,g⟩:=(h.2 i).2 cs (jz.1 e);exact⟨ds,jz.2 m,g⟩
variable{ds:aA}
theorem qbe.set{B:ar}(h:qbe B Bv)(i:Nat)(r:AV.fits cs ds):qbe (B.set i (some cs)) (Bv.set i (some ds)):=by
 refine⟨by simpa using h.1,fun j=> ?_⟩
 by_cases q:i=j
 ·subst q
  constructor
  ·intro h'
   rw[iz]at h';cases hb:B[i]?<;>simp[hb]at h'
  ·intro c h'
   rw[iz]at h'⊢
   have g:i<B.length:=by
    rcases eN i B.length with m|m
    ·exact m
    ·rw[gU m]at h';simp at h'
   have e:i<Bv.length:=by rw[<-h.1];exact g
   simp[g]at h';subst h'
   simp[e,r]
 ·rw[dK q,dK q];exact h.2 j
theorem qbe.take{B:ar}(h:qbe B Bv)(n:Nat):qbe (B.take n) (Bv.take n):=by
 refine⟨by simp[h.1],fun i=> ?_⟩;simp only[eY];split
 ·exact h.2 i
 ·simp
theorem qbe.more{B:ar}(h:qbe B Bv)(n:Nat):qbe (B++List.replicate n none) (Bv++List.replicate n none):=by
 refine⟨by simp[h.1],fun i=> ?_⟩
 by_cases hi:i<B.length
 ·rw[cf hi,cf (by rw[<-h.1];exact hi)];exact h.2 i
 ·rw[cF (by omega),cF (by rw[<-h.1];omega),h.1]
  constructor
  ·exact id
  ·intro cs hc
   rw[Gf]at hc;split at hc<;>simp at hc
theorem vH{B:ar}(h:i<B.length):aT (B.set i (some cs)) i=some cs:=by rw[jz];simp[h]
variable{j:Nat}
theorem Db{B:ar}{c:Option aA}(h:i≠j):aT (B.set i c) j=aT B j:=by unfold aT;rw[dK h]
theorem Bg{B:ar}(h:i<B.length)(h':i<Bv.length):bp (B.set i (some cs)) (Bv.set i (some ds)) i=AV.owns cs ds:=by unfold bp;rw[vH h,vH h']
theorem xe{B:ar}{c d:Option aA}(h:i≠j):bp (B.set i c) (Bv.set i d) j=bp B Bv j:=by unfold bp;rw[Db h,Db h]
theorem KO{B:ar}{c:Option aA}(h:i≠j):bp (B.set i c) Bv j=bp B Bv j:=by unfold bp;rw[Db h]
theorem ub{B:ar}:aT (B.take n) i=if i<n then aT B i else none:=by unfold aT;simp only[eY];split<;>simp_all
theorem qHP{B:ar}:aT (B++List.replicate n none) i=aT B i:=by
 unfold aT
 by_cases hi:i<B.length
 ·rw[cf hi]
 ·rw[cF (by omega),Gf,gU (by omega:B.length<=i)]
  split<;>simp_all
section
variable {A0:Ids} {T:ae} {F:Id->Prop} {p:Id} {k:Nat} {sx:XS} {sv:St}
theorem Rel.er(h:Rel A0 T F p k sx sv):gL sx.r sv.r:=fun t x g=>by obtain⟨v,m,e⟩:=h.regs t x g;exact⟨v,m,AV.qcN _ _ e⟩
theorem Rel.get(h:Rel A0 T F p k sx sv){a:AV}(e:bq sx.r x=some a):∃v,x.get sv.r=some v/\a.fit v:=by
 cases x with
 |t n=>exact h.regs n a e
 |c v=>
  cases v with
  |d v=>simp[bq,VX.get]at e⊢;subst e;simp only[AV.fit];exact⟨_,rfl,DV.qsW v⟩
  |_=>simp[bq,VX.get]at e⊢;subst e;exact AV.qbn _
def cv(rx rv:aE)(x:VX):eq:=
 match bq rx x,x.get rv with
 |some a,some v=>a.own v
 |_,_=>[]
theorem pQ(rx rv:aE)(n:Nat):cv rx rv (.t n)=br rx rv n:=rfl
theorem FN(rx rv:aE)(v:AV):cv rx rv (.c v)=[]:=by
 cases v with
 |d v=>simp[cv,bq,VX.get,AV.own,DV.qId]
 |_=>simp only[cv,bq,VX.get,AV.qbL]
theorem fl{a:AV}(e:bq rx x=some a)(g:x.get rv=some v):cv rx rv x=a.own v:=by simp[cv,e,g]
theorem Rel.qdL(h:Rel A0 T F p k sx sv)(e:a∈cv sx.r sv.r x):∃n,x= .t n/\T.contains n=true/\a∈br sx.r sv.r n:=by
 cases x with
 |c v=>rw[FN]at e;simp at e
 |t n=>
  rw[pQ]at e;refine⟨n,rfl,?_,e⟩;cases hn:T.contains n with
  |true=>rfl
  |false=>rw[h.nl n hn]at e;simp at e
theorem Ti(r:aE)(x:VX)(t:Nat):lk (eW T r x) t=if x= .t t/\T.contains t=true then(lk r t).map AV.clr else lk r t:=by
 cases x with
 |c v=>simp[eW]
 |t n=>
  simp only[eW]
  by_cases q:T.contains n=true
  ·simp only[q,if_true]
   cases hl:lk r n with
   |none=>
    by_cases e:n=t
    ·subst e;simp[hl]
    ·simp[e]
   |some v=>
    simp only[lk_cons']
    by_cases e:t=n
    ·subst e;have g:t∈T:=by simpa using q
     simp[g,hl]
    ·have:¬n=t:=fun h=>e h.symm
     simp[e,this]
  ·have g:T.contains n=false:=by simpa using q
   simp only[g,bL,if_false]
   by_cases e:n=t
   ·subst e;have m:¬n∈T:=by simpa using q
    simp[m]
   ·simp[e]
where lk_cons' {t:Nat} {v:AV} {r:aE} {n:Nat}:lk ((t,v)::r) n=if n=t then some v else lk r n:=rfl
theorem Br:∀(xs:cm) (r:aE) (t:Nat),lk (dC T r xs) t=if VX.t t∈xs/\T.contains t=true then(lk r t).map AV.clr else lk r t
 | [],r,t=>by simp[dC]
 |x::xs,r,t=>by
  simp only[dC];rw[Br xs,Ti]
  by_cases u:T.contains t=true
  ·have e:t∈T:=by simpa using u
   by_cases m:VX.t t∈xs
   ·by_cases g:x= .t t
    ·subst g
     simp only[m,u,re,if_true,bK,true_or,Gj]
     congr 1;funext v;exact AV.qhI v
    ·have q:VX.t t≠x:=fun h=>g h.symm
     simp[m,g,e,q]
   ·by_cases g:x= .t t
    ·subst g;simp[m,e]
    ·have q:VX.t t≠x:=fun h=>g h.symm
     simp[m,g,q]
  ·have e:¬t∈T:=by simpa using u
   simp[e]
theorem jK(xs:cm)(r rv:aE)(t:Nat):br (dC T r xs) rv t=if VX.t t∈xs/\T.contains t=true then []else br r rv t:=by
 unfold br;rw[Br]
 by_cases hc:VX.t t∈xs/\T.contains t=true
 ·rw[aw hc,aw hc]
  cases lk r t with
  |none=>rfl
  |some v=>cases lk rv t with
   |none=>rfl
   |some u=>simp[AV.qbL]
 ·rw[au hc,au hc]
theorem Rel.drops(h:Rel A0 T F p k sx sv)(xs:cm):Rel A0 T F p k ⟨dC T sx.r xs,sx.B⟩ sv:=by
 refine⟨fun t x g=> ?_,h.boxes,h.held.shrink (fun ℓ=> ?_) (fun a w _=>w) (fun _ C=>C),fun t e=> ?_,fun t e=> ?_,h.am⟩
 ·simp only at g
  rw[Br]at g;split at g
  ·obtain⟨y,q,rfl⟩:=ay.1 g
   obtain⟨v,m,u⟩:=h.regs t y q;exact⟨v,m,AV.qcN _ _ u⟩
  ·exact h.regs t x g
 ·cases ℓ with
  |reg t=>simp only[aI,jK];split<;>simp
  |box i=>simp[aI]
 ·simp only[jK];split
  ·rfl
  ·exact h.nl t e
 ·simp only at e
  rw[Br]at e;split at e
  ·exact h.no t (by simpa using e)
  ·exact h.no t e
theorem Rel.next(h:Rel A0 T F p k sx sv)(m:k<=k'):Rel A0 T F p k' sx sv:=⟨h.regs,h.boxes,h.held.shrink (fun _=>co _) (fun a e _=>e) (fun _ g=>g.le m),h.nl,h.no,fun a e=>⟨fun g=>(h.am a e).1 (g.le m),(h.am a e).2⟩⟩
theorem Rel.put(h:Rel A0 T F p k sx sv)(dst:a_){a:AV}(q:a.fit v)(I:k<=k')
 (H:cN T dst=true->(a.own v).Nodup/\∀i,i∈a.own v->A' i=true/\¬F i/\¬Fut p k' i/\∀ℓ,ℓ≠Loc.reg (dst.getD 0)->i∉aI sx.r sx.B sv.r sv.B ℓ)
 (J:∀i,sv.A i=true->(F i\/∃ℓ,i∈aI sx.r sx.B sv.r sv.B ℓ)->A' i=true) (M:∀a,A' a=true->sv.A a=true\/(Fut p 0 a/\¬Fut p k' a)) (c':Nat):
 Rel A0 T F p k' (be T sx dst a) {(St.put {sv with A:=A'} dst v)with c:=c'}:=by
 have C:∀a,A' a=true->¬Fut p k' a/\(A0 a=true\/Fut p 0 a):=fun a R=>by
  rcases M a R with w|⟨w,K⟩
  ·exact⟨fun q=>(h.am a w).1 (q.le I),(h.am a w).2⟩
  ·exact⟨K,.inr w⟩
 cases dst with
 |none=>exact⟨h.regs,h.boxes,h.held.shrink (fun _=>co _) (fun i hi e=>J i hi e) (fun _ q=>q.le I),h.nl,h.no,C⟩
 |some d=>
  have u:∀t,t≠d->br (be T sx (some d) a).r ((d,v)::sv.r) t=br sx.r sv.r t:=by intro t g;simp only[br,be,lk];rw[au g,au g]
  have G:br (be T sx (some d) a).r ((d,v)::sv.r) d=if T.contains d=true then a.own v else []:=by
   simp only[br,be,lk,if_true];split
   ·rfl
   ·exact AV.qbL _ _
  refine⟨fun t x e=> ?_,h.boxes,?_,fun t g=> ?_,fun t g=> ?_,C⟩
  ·simp only[be,lk]at e
   simp only[St.put,lk];split at e
   ·rename_i m
    rw[aw m];simp at e;refine⟨v,rfl,?_⟩;split at e
    ·subst e;exact q
    ·subst e;exact AV.qcN _ _ q
   ·rename_i m
    rw[au m];exact h.regs t x e
  ·simp only[St.put]
   by_cases D:T.contains d=true
   ·obtain⟨w,K⟩:=H D
    refine h.held.set (Loc.reg d) (fun ℓ hℓ=> ?_) (by simp only[aI,G,D,if_true];exact w) (fun i hi=> ?_) (fun ℓ hℓ i hi=> ?_) (fun i hi=>J i (h.held.fr i hi).1 (.inl hi)) (fun _ q=>q.le I)
    ·cases ℓ with
     |reg t=>simp only[aI];rw[u t (fun m=>hℓ (by rw[m]))];exact co _
     |box i=>exact co _
    ·simp only[aI,G,D,if_true]at hi
     obtain⟨O,P,N,Q⟩:=K i hi;refine⟨O,P,N,fun ℓ hℓ=> ?_⟩;have:=Q ℓ (by simpa using hℓ);cases ℓ with
     |reg t=>simp only[aI]at this⊢;rw[u t (fun m=>hℓ (by rw[m]))];exact this
     |box i=>exact this
    ·have:i∈aI sx.r sx.B sv.r sv.B ℓ:=by
      cases ℓ with
      |reg t=>simp only[aI]at hi⊢;rw[u t (fun m=>hℓ (by rw[m]))]at hi;exact hi
      |box i=>exact hi
     exact J i (h.held.opn ℓ i this).1 (.inr ⟨ℓ,this⟩)
   ·refine h.held.shrink (fun ℓ=> ?_) (fun i hi e=>J i hi ?_) (fun _ q=>q.le I)
    ·cases ℓ with
     |reg t=>
      simp only[aI]
      by_cases g:t=d
      ·subst g;rw[G,au D];simp
      ·rw[u t g];exact co _
     |box i=>exact co _
    ·rcases e with e|⟨ℓ,e⟩
     ·exact .inl e
     ·refine .inr ⟨ℓ,?_⟩
      cases ℓ with
      |reg t=>
       simp only[aI]at e⊢
       by_cases g:t=d
       ·subst g;rw[G,au D]at e;simp at e
       ·rw[u t g]at e;exact e
      |box i=>exact e
  ·simp only[St.put]
   by_cases m:t=d
   ·subst m;rw[G,au (by rw[g];simp)]
   ·rw[u t m];exact h.nl t g
  ·simp only[be,lk]at g
   simp only[St.put,lk];split at g
   ·simp at g
   ·rename_i m;rw[au m];exact h.no t g
theorem Rel.put0(h:Rel A0 T F p k sx sv)(dst:a_){a:AV}(m:a.fit v)(g:a.own v=[])(e:k<=k')(c':Nat):Rel A0 T F p k' (be T sx dst a) {(sv.put dst v)with c:=c'}:=h.put dst m e (fun _=>by rw[g];simp) (fun i hi _=>hi) (fun _ hi=> .inl hi) c'
end
theorem l6{T:ae}{xs:cm}(h:dn T (x::xs)=true):(∀n,x= .t n->T.contains n=true->VX.t n∉xs)/\dn T xs=true:=by
 simp only[dn,aQ,bB,fT,List.any_eq_false]at h;refine⟨?_,h.2⟩
 rintro n rfl e g
 have m:=h.1 n (by simp only[VX.linT,e,if_true];simp);have:=m (.t n) g;simp only[VX.linT,e,if_true]at this;simp at this
variable{y:VX}
section
variable {A0:Ids} {T:ae} {F:Id->Prop} {p:Id} {k:Nat} {sx:XS} {sv:St}
theorem Rel.qek(h:Rel A0 T F p k sx sv)(w:∀n,x= .t n->T.contains n=true->y≠.t n)(C:a∈cv sx.r sv.r x):a∉cv sx.r sv.r y:=by intro q;obtain⟨n,rfl,u,g⟩:=h.qdL C;obtain⟨m,rfl,D,e⟩:=h.qdL q;have:=h.held.apart (.reg n) (.reg m) a g e;simp at this;exact w n rfl u (by rw[this])
theorem Rel.qa8(h:Rel A0 T F p k sx sv)(x:VX):(cv sx.r sv.r x).Nodup:=by
 cases x with
 |c v=>rw[FN];simp
 |t n=>rw[pQ];exact h.held.nodup (.reg n)
theorem Rel.qcA(h:Rel A0 T F p k sx sv){xs:cm}(w:x∈xs)(u:a∈cv sx.r sv.r x)(ℓ:Loc):a∉aI (dC T sx.r xs) sx.B sv.r sv.B ℓ:=by
 obtain⟨n,rfl,q,m⟩:=h.qdL u;intro e;have g:a∈aI sx.r sx.B sv.r sv.B ℓ:=by
  cases ℓ with
  |reg t=>simp only[aI,jK]at e⊢;split at e<;>first|(simp at e;done)|exact e
  |box i=>exact e
 have:=h.held.apart (.reg n) ℓ a m g;subst this;simp only[aI,jK]at e;rw[aw ⟨w,q⟩]at e;simp at e
theorem Rel.qb5(h:Rel A0 T F p k sx sv)(g:a∈cv sx.r sv.r x):sv.A a=true/\¬F a/\¬Fut p k a:=by obtain⟨n,rfl,m,e⟩:=h.qdL g;exact h.held.opn (.reg n) a e
theorem Ni{dst:a_}(e:cN T dst=true)(s:XS)(xs:cm):eu T dst s xs=⟨dC T s.r xs,s.B⟩:=by simp[eu,e]
theorem Hm{dst:a_}(e:cN T dst=false)(s:XS)(xs:cm):eu T dst s xs=s:=by simp[eu,e]
theorem Rel.give(h:Rel A0 T F p k sx sv)(dst:a_)(xs:cm){a:AV}(g:a.fit v)(u:(a.own v).Nodup)(q:∀i,i∈a.own v->∃x,x∈xs/\i∈cv sx.r sv.r x)(m:k<=k')(c':Nat):
 Rel A0 T F p k' (be T (eu T dst sx xs) dst a) {(sv.put dst v)with c:=c'}:=by
 cases hl:cN T dst with
 |false=>rw[Hm hl];exact h.put dst g m (fun h'=>by rw[hl]at h';simp at h') (fun i hi _=>hi) (fun _ hi=> .inl hi) c'
 |true=>rw[Ni hl];refine(h.drops xs).put dst g m (fun _=>⟨u,fun i hi=> ?_⟩) (fun i hi _=>hi) (fun _ hi=> .inl hi) c';obtain⟨x,D,e⟩:=q i hi;obtain⟨G,C,w⟩:=h.qb5 e;exact⟨G,C,fun g=>w (g.le m),fun ℓ _=>h.qcA D e ℓ⟩
theorem qtp{a:al}(e:DV.fits a c)(g:DV.fits b d)(off:Nat):DV.fits (splice a off b) (splice c off d):=by unfold splice;rw[<-DV.qao g];exact DV.qaW (DV.qaW (DV.qbr e _) g) (DV.qbC e _)
theorem Im{a b c d:aA}(e:AV.fits a c)(g:AV.fits b d)(off:Nat):AV.fits (splice a off b) (splice c off d):=by unfold splice;rw[<-AV.qao g];exact AV.qaW (AV.qaW (AV.qbr e _) g) (AV.qbC e _)
theorem qto{a:al}(m:DV.fits a c)(h:DV.fits b d)(off:Nat):DV.owns (splice a off b) (splice c off d)=DV.owns (a.take off) (c.take off)++DV.owns b d++DV.owns (a.drop (off+b.length)) (c.drop (off+b.length)):=by unfold splice;have g:=DV.qao m;have e:=DV.qao h;rw[<-e,DV.qaT (by simp[g,e]),DV.qaT (by simp[g])]
theorem Jl{a b c d:aA}(m:AV.fits a c)(h:AV.fits b d)(off:Nat):AV.owns (splice a off b) (splice c off d)=AV.owns (a.take off) (c.take off)++AV.owns b d++AV.owns (a.drop (off+b.length)) (c.drop (off+b.length)):=by unfold splice;have g:=AV.qao m;have e:=AV.qao h;rw[<-e,AV.qaT (by simp[g,e]),AV.qaT (by simp[g])]
theorem J2{a:al}(h:a.length=c.length)(off m:Nat):(DV.owns (a.take off) (c.take off)++DV.owns (a.drop (off+m)) (c.drop (off+m))).Sublist (DV.owns a c):=by rw[DV.qbX h off];refine ig (co _) ?_;rw[DV.qbX (a:=a.drop off) (c:=c.drop off) (by simp[h]) m,l_,l_];exact gV _ _
theorem Ht{a c:aA}(h:a.length=c.length)(off m:Nat):(AV.owns (a.take off) (c.take off)++AV.owns (a.drop (off+m)) (c.drop (off+m))).Sublist (AV.owns a c):=by rw[AV.qbX h off];refine ig (co _) ?_;rw[AV.qbX (a:=a.drop off) (c:=c.drop off) (by simp[h]) m,l_,l_];exact gV _ _
theorem Cx{α:Type}{D m r w:List α}(C:(D++r).Sublist w)(M:w.Nodup)(O:m.Nodup)(H:∀a,a∈m->a∉w):(D++m++r).Nodup:=by
 have I:=M.sublist C;rw[cJ]at I;obtain⟨J,K,N⟩:=I;have G:∀a,a∈D->a∈w:=fun a e=>C.subset (by simp[e])
 have u:∀a,a∈r->a∈w:=fun a e=>C.subset (by simp[e])
 rw[cJ];refine⟨?_,K,?_⟩
 ·rw[cJ]
  exact⟨J,O,fun a e b g q=>H b g (by rw[<-q];exact G a e)⟩
 ·intro a e b g q
  rcases bC.1 e with h|h
  ·exact N a h b g q
  ·exact H a h (by rw[q];exact u b g)
theorem G7(h:Rel A0 T F p k sx sv):∀(ps:iX) (cs ds g:al),dn T (ps.map fun q=>q.2.2)=true->ez (bq sx.r) cs ps=some g->DV.fits cs ds->(DV.owns cs ds).Nodup->
 (∀a,a∈DV.owns cs ds->∀x,x∈ps.map (fun q=>q.2.2)->a∉cv sx.r sv.r x)->
 ∃m,ez (VX.get sv.r) ds ps=some m/\DV.fits g m/\(DV.owns g m).Nodup/\∀a,a∈DV.owns g m->a∈DV.owns cs ds\/∃x,x∈ps.map (fun q=>q.2.2)/\a∈cv sx.r sv.r x
 | [],cs,ds,g,_,w,N,P,_=>by simp[ez]at w;subst w;exact⟨ds,rfl,N,P,fun a e=> .inl e⟩
 |(off,size,x)::ps,cs,ds,g,hd,w,N,P,H=>by
  simp only[bA]at hd H;obtain⟨R,h3⟩:=l6 hd;simp only[ez]at w;split at w
  ·rename_i v hv
   split at w
   ·rename_i hc
    obtain⟨c1,c2,c3⟩:=hc;obtain⟨u,hu,O⟩:=h.get hv;simp only[AV.fit]at O;obtain⟨y,rfl,J⟩:=O;have K:=DV.qa5 J;have W:cv sx.r sv.r x=v.own y:=by rw[fl hv hu];rfl
    have I:(DV.owns v.cells y.cells)=cv sx.r sv.r x:=by rw[DV.qdy J,W]
    have S:=qtp N K off;have D:=qto N K off;have M:=J2 (DV.qao N) off v.cells.length;have Z:(DV.owns (splice cs off v.cells) (splice ds off y.cells)).Nodup:=by rw[D];exact Cx M P (by rw[I];exact h.qa8 x) (fun a e hm=>H a hm x (by simp) (by rw[<-I];exact e))
    have C:∀a,a∈DV.owns (splice cs off v.cells) (splice ds off y.cells)->a∈DV.owns cs ds\/a∈cv sx.r sv.r x:=by
     intro a e;rw[D]at e;simp only[bC]at e;rcases e with(e|e)|e
     ·exact .inl (M.subset (by simp[e]))
     ·exact .inr (by rw[<-I];exact e)
     ·exact .inl (M.subset (by simp[e]))
    obtain⟨m,e1,e2,e3,e4⟩:=G7 h ps _ _ g h3 w S Z (fun a e z Q=>by
     rcases C a e with G|G
     ·exact H a G z (by simp[Q])
     ·refine h.qek (fun n hx P he=> ?_) G
      subst he;exact R n hx P Q)
    refine⟨m,?_,e2,e3,fun a e=> ?_⟩
    ·simp only[ez,hu]
     rw[aw ⟨by rw[DV.qbH J];exact c1,by rw[<-DV.qao N];exact c2,by rw[DV.qbB K];exact c3⟩];exact e1
    ·rcases e4 a e with G|⟨z,Q,G⟩
     ·rcases C a G with Y|Y
      ·exact .inl Y
      ·exact .inr ⟨x,by simp,Y⟩
     ·exact .inr ⟨z,by simp only[bA,bK];exact .inr Q,G⟩
   ·simp at w
  ·simp at w
theorem wJ{a:al}(h:DV.fits a c){x y:DV}(q:x.fit y):DV.fits (a.set i x) (c.set i y):=by
 rw[DV.qbl]at h⊢
 refine⟨by simp[h.1],fun j u v e g=> ?_⟩
 by_cases m:i=j
 ·subst m
  rw[iz]at e g;cases ha:a[i]?<;>cases hc:c[i]?<;>simp[ha,hc]at e g
  subst e;subst g;exact q
 ·rw[dK m]at e g;exact h.2 j u v e g
theorem ny{a:al}(h:DV.fits a c)(hi:i<a.length)(x y:DV):DV.owns (a.set i x) (c.set i y)=DV.owns (a.take i) (c.take i)++x.own y++DV.owns (a.drop (i+1)) (c.drop (i+1)):=by
 have e:=DV.qao h;have g:∀(l:al) (z:DV),i<l.length->l.set i z=l.take i++z::l.drop (i+1):=fun l z e=>by rw[tO,aw e]
 rw[g a x hi,g c y (by omega),DV.qaT (by simp[e])];simp[DV.owns,cr]
theorem Lh(h:Rel A0 T F p k sx sv)(sz:Nat):∀(ps:i9) (cs ds m:al),dn T (ps.map fun q=>q.2)=true->df (bq sx.r) sz cs ps=some m->DV.fits cs ds->(∀e:DV,e∈ds->e.cells.length=sz)->(DV.owns cs ds).Nodup->
 (∀a,a∈DV.owns cs ds->∀x,x∈ps.map (fun q=>q.2)->a∉cv sx.r sv.r x)->
 ∃w,df (VX.get sv.r) sz ds ps=some w/\DV.fits m w/\(∀e:DV,e∈w->e.cells.length=sz)/\(DV.owns m w).Nodup/\∀a,a∈DV.owns m w->a∈DV.owns cs ds\/∃x,x∈ps.map (fun q=>q.2)/\a∈cv sx.r sv.r x
 | [],cs,ds,m,_,G,O,J,Q,_=>by simp[df]at G;subst G;exact⟨ds,rfl,O,J,Q,fun a g=> .inl g⟩
 |(i,x)::ps,cs,ds,m,hd,G,O,J,Q,K=>by
  simp only[bA]at hd K;obtain⟨R,h3⟩:=l6 hd;simp only[df]at G;split at G
  ·rename_i v hv
   split at G
   ·rename_i hc
    obtain⟨c1,c2,c3⟩:=hc;obtain⟨u,hu,P⟩:=h.get hv;simp only[AV.fit]at P;obtain⟨y,rfl,D⟩:=P;have h4:=DV.qa5 D;have M:cv sx.r sv.r x=v.own y:=by rw[fl hv hu];rfl
    have S:=wJ O (i:=i) D;have I:=ny O c2 v y;have N:=J2 (DV.qao O) i 1;have Z:∀e:DV,e∈ds.set i y->e.cells.length=sz:=by
     intro e he;rcases rY he with C|C
     ·exact J e C
     ·subst C;rw[DV.qbH D];exact c1
    have Y:(DV.owns (cs.set i v) (ds.set i y)).Nodup:=by rw[I];exact Cx N Q (by rw[<-M];exact h.qa8 x) (fun a g hm=>K a hm x (by simp) (by rw[M];exact g))
    have H:∀a,a∈DV.owns (cs.set i v) (ds.set i y)->a∈DV.owns cs ds\/a∈cv sx.r sv.r x:=by
     intro a g;rw[I]at g;simp only[bC]at g;rcases g with(g|g)|g
     ·exact .inl (N.subset (by simp[g]))
     ·exact .inr (by rw[M];exact g)
     ·exact .inl (N.subset (by simp[g]))
    obtain⟨w,e1,e2,e0,e3,e4⟩:=Lh h sz ps _ _ m h3 G S Z Y (fun a g z J=>by
     rcases H a g with C|C
     ·exact K a C z (by simp[J])
     ·refine h.qek (fun n hx Q he=> ?_) C
      subst he;exact R n hx Q J)
    refine⟨w,?_,e2,e0,e3,fun a g=> ?_⟩
    ·simp only[df,hu]
     rw[aw ⟨by rw[DV.qbH D];exact c1,by rw[<-DV.qao O];exact c2,by rw[DV.qbB h4];exact c3⟩];exact e1
    ·rcases e4 a g with C|⟨z,J,C⟩
     ·rcases H a C with W|W
      ·exact .inl W
      ·exact .inr ⟨x,by simp,W⟩
     ·exact .inr ⟨z,by simp only[bA,bK];exact .inr J,C⟩
   ·simp at G
  ·simp at G
theorem Rel.box(h:Rel A0 T F p k sx sv)(xs:cm)(i:Nat)(M:AV.fits cs ds)(hi:i<sx.B.length)(I:(AV.owns cs ds).Nodup)
 (H:∀a,a∈AV.owns cs ds->a∈bp sx.B sv.B i\/∃x,x∈xs/\a∈cv sx.r sv.r x):
 Rel A0 T F p k ⟨dC T sx.r xs,sx.B.set i (some cs)⟩ {sv with B:=sv.B.set i (some ds)}:=by
 have w:i<sv.B.length:=by rw[<-h.boxes.1];exact hi
 have J:∀j,j≠i->bp (sx.B.set i (some cs)) (sv.B.set i (some ds)) j=bp sx.B sv.B j:=fun j N=>xe (fun m=>N m.symm)
 have g:bp (sx.B.set i (some cs)) (sv.B.set i (some ds)) i=AV.owns cs ds:=Bg hi w;refine⟨(h.drops xs).regs,h.boxes.set i M,?_,(h.drops xs).nl,(h.drops xs).no,h.am⟩;refine h.held.set (Loc.box i) (fun ℓ hℓ=> ?_) (by simp only[aI,g];exact I) (fun a e=> ?_) (fun ℓ hℓ a e=> ?_) (fun a e=>(h.held.fr a e).1) (fun _ M=>M)
 ·cases ℓ with
  |reg t=>simp only[aI,jK];split<;>simp
  |box j=>simp only[aI];rw[J j (fun m=>hℓ (by rw[m]))];exact co _
 ·simp only[aI,g]at e
  have gone:∀ℓ,ℓ≠Loc.box i->a∉aI (dC T sx.r xs) sx.B sv.r sv.B ℓ->a∉aI (dC T sx.r xs) (sx.B.set i (some cs)) sv.r (sv.B.set i (some ds)) ℓ:=by
   intro ℓ hℓ D;cases ℓ with
   |reg t=>exact D
   |box j=>simp only[aI]at D⊢;rw[J j (fun m=>hℓ (by rw[m]))];exact D
  rcases H a e with q|⟨x,O,q⟩
  ·obtain⟨K,G,C⟩:=h.held.opn (.box i) a q
   refine⟨K,G,C,fun ℓ hℓ=>gone ℓ hℓ fun u=>hℓ ?_⟩;refine(h.held.apart (.box i) ℓ a q ?_).symm;cases ℓ with
   |reg t=>simp only[aI,jK]at u⊢;split at u<;>first|(simp at u;done)|exact u
   |box j=>exact u
  ·obtain⟨K,G,C⟩:=h.qb5 q
   exact⟨K,G,C,fun ℓ hℓ=>gone ℓ hℓ (h.qcA O q ℓ)⟩
 ·have:a∈aI sx.r sx.B sv.r sv.B ℓ:=by
   cases ℓ with
   |reg t=>simp only[aI,jK]at e⊢;split at e<;>first|(simp at e;done)|exact e
   |box j=>simp only[aI]at e⊢;rw[J j (fun m=>hℓ (by rw[m]))]at e;exact e
  exact(h.held.opn ℓ a this).1
end
def hZ(X:cq)(V:ct)(lin:Nat->ae):Prop:=
 ∀f xs B v' B',X f xs B=some (v',B')->∀p vs Bv A F,AV.fits xs vs->qbe B Bv->Held F (Fut p 0) A (aI (bo 0 xs) B (bo 0 vs) Bv)->
  (∀j,(lin f).contains j=false->br (bo 0 xs) (bo 0 vs) j=[])->(∀a,A a=true->¬Fut p 0 a)->
  ∃v e A',V p f vs Bv A=some ⟨v,A',e⟩/\v'.fit v/\qbe B' e/\Held F (fun _=>False) A' (aI [(0,v')] B' [(0,v)] e)/\
   ∀a,A' a=true->A a=true\/Fut p 0 a
theorem lj:∀(args:aA) (i t:Nat),lk (bo i args) t=if i<=t then args[t-i]? else none
 | [],i,t=>by simp[bo,lk]
 |x::xs,i,t=>by
  simp only[bo,lk]
  by_cases g:t=i
  ·subst g;simp
  ·rw[au g,lj xs]
   by_cases e:i+1<=t
   ·rw[aw e,aw (by omega),show t-i=(t-(i+1))+1 by omega];simp
   ·rw[au e,au (by omega)]
theorem nh(xs vs:aA)(t:Nat):br (bo 0 xs) (bo 0 vs) t=match xs[t]?,vs[t]? with|some x,some v=>x.own v|_,_=>[]:=by
 unfold br;rw[lj,lj];simp only[db,if_true,lq]
 all_goals (cases xs[t]?<;>cases vs[t]?<;>rfl)
theorem kr{xs:aA}{ds:al}(h:aV xs=some ds){vs:aA}(g:AV.fits xs vs):∃e,aV vs=some e/\DV.fits ds e/\AV.owns xs vs=DV.owns ds e:=by
 induction xs generalizing ds vs with
 |nil=>simp[aV]at h;subst h;simp only[AV.fits]at g;subst g;exact⟨[],rfl,by simp[DV.fits],by simp[AV.owns,DV.owns]⟩
 |cons x xs I=>
  cases x with
  |d d=>simp only[aV]at h;obtain⟨q,C,rfl⟩:=ay.1 h;simp only[AV.fits]at g;obtain⟨v,r,rfl,m,u⟩:=g;simp only[AV.fit]at m;obtain⟨y,rfl,G⟩:=m;obtain⟨e,D,H,w⟩:=I C u;exact⟨y::e,by simp[aV,D],by simp only[DV.fits];exact⟨_,_,rfl,G,H⟩,by simp[AV.owns,DV.owns,AV.own,w]⟩
  |_=>simp[aV]at h
theorem Di{A0:Ids}{T:ae}{sx:XS}{sv:St}(h:Rel A0 T F p k sx sv):∀{xs:cm} {as:aA},h_ sx.r xs=some as->∃vs,di sv.r xs=some vs/\AV.fits as vs/\as.length=xs.length/\
 ∀(j:Nat) (a v:AV) (x:VX),as[j]?=some a->vs[j]?=some v->xs[j]?=some x->a.own v=cv sx.r sv.r x
 | [],as,e=>by simp[h_]at e;subst e;exact⟨[],rfl,by simp[AV.fits],rfl,by simp⟩
 |x::xs,as,e=>by
  simp only[h_]at e;obtain⟨a,w,D⟩:=az.1 e;obtain⟨M,G,rfl⟩:=ay.1 D;obtain⟨v,C,J⟩:=h.get w;obtain⟨vs,N,I,K,H⟩:=Di h G;refine⟨v::vs,by simp[di,C,N],by simp only[AV.fits];exact⟨_,_,rfl,J,I⟩,by simp[K],fun j b u y g q m=> ?_⟩;cases j with
  |zero=>simp at g q m;subst g;subst q;subst m;exact(fl w C).symm
  |succ j=>simp at g q m;exact H j b u y g q m
theorem EG(LP:ae):∀(vs:aA) (j:Nat),(c8 LP j vs).length=vs.length
 | [],j=>rfl
 |v::r,j=>by simp[c8,EG LP r]
theorem rD(LP:ae):∀(vs:aA) (j i:Nat),(c8 LP j vs)[i]?=(vs[i]?).map fun v=>if LP.contains (j+i)then v else v.clr
 | [],j,i=>by simp[c8]
 |v::r,j,i=>by
  cases i with
  |zero=>simp[c8]
  |succ i=>simp only[c8,mP];rw[rD LP r];congr 1;funext v;rw[show j+1+i=j+(i+1)by omega]
variable{LP:ae}
theorem Gx{as vs:aA}(h:AV.fits as vs)(j:Nat):AV.fits (c8 LP j as) vs:=by
 rw[AV.qbl]at h⊢
 refine⟨by rw[EG];exact h.1,fun i x v e m=> ?_⟩;rw[rD]at e;obtain⟨y,g,rfl⟩:=ay.1 e;have:=h.2 i y v g m;split
 ·exact this
 ·exact AV.qcN _ _ this
theorem Cc(LP:ae):∀(xs:cm) (j i:Nat) (x:VX),xs[i]?=some x->LP.contains (j+i)=true->x∈dV LP j xs
 | [],j,i,x,h,_=>by simp at h
 |y::r,j,i,x,h,hc=>by
  cases i with
  |zero=>simp at h hc;subst h;simp[dV,hc]
  |succ i=>
   simp at h;have:=Cc LP r (j+1) i x h (by rw[show j+1+i=j+(i+1)by omega];exact hc);simp only[dV];split
   ·exact em _ this
   ·exact this
theorem Cp{T:ae}:∀(xs:cm) (j i e:Nat) (x x':VX),dn T (dV LP j xs)=true->xs[i]?=some x->xs[e]?=some x'->LP.contains (j+i)=true->LP.contains (j+e)=true->i<e->∀n,x= .t n->T.contains n=true->x'≠.t n
 | [],j,i,e,x,x',_,h,_,_,_,_=>by simp at h
 |y::r,j,i,e,x,x',g,h,h',hc,q,I=>by
  intro n D C G;obtain⟨e,rfl⟩:∃m,e=m+1:=⟨e-1,by omega⟩;simp at h';cases i with
  |zero=>
   simp at h hc;subst h
   have w:LP.contains j=true:=by simpa using hc
   simp only[dV,w,if_true]at g;obtain⟨H,_⟩:=l6 g;refine H n D C ?_;rw[<-G];exact Cc LP r (j+1) e x' h' (by rw[show j+1+e=j+(e+1)by omega];exact q)
  |succ i=>
   simp at h;have u:dn T (dV LP (j+1) r)=true:=by
    simp only[dV]at g;split at g
    ·exact(l6 g).2
    ·exact g
   exact Cp r (j+1) i e x x' u h h' (by rw[show j+1+i=j+(i+1)by omega];exact hc) (by rw[show j+1+e=j+(e+1)by omega];exact q) (by omega) n D C G
variable{off:Nat}{agg:Bool}{s:St}
section
variable {A0:Ids} {T:ae} {F:Id->Prop} {p:Id} {k:Nat} {sx sx':XS} {sv:St} {X:cq} {V:ct} {lin:Nat->ae} {draw:Bool} {L0 i:Nat} {o:VOper}
theorem Lc{x:AV}(h:x.fit v):v.plainT=x.plainT/\(x.plainT=true->x.own v=[]):=by
 cases x<;>simp only[AV.fit]at h
 case d x=>
  obtain⟨y,rfl,e⟩:=h;cases x<;>simp only[DV.fit]at e
  case sl g xs=>
   obtain⟨g',ys,rfl,m,_⟩:=e;cases xs with
   |nil=>simp only[DV.fits]at m;subst m;exact⟨rfl,fun _=>by simp[AV.own,DV.own,DV.owns]⟩
   |cons a r=>simp only[DV.fits]at m;obtain⟨_,_,rfl,_⟩:=m;exact⟨rfl,fun h=>by simp[AV.plainT]at h⟩
  case agg cs=>obtain⟨_,rfl,_⟩:=e;exact⟨rfl,fun h=>by simp[AV.plainT]at h⟩
  case tup cs=>obtain⟨_,rfl,_⟩:=e;exact⟨rfl,fun h=>by simp[AV.plainT]at h⟩
  all_goals subst e;exact⟨rfl,fun _=>by simp[AV.own,DV.own]⟩
 case ep=>obtain⟨_,rfl,_⟩:=h;exact⟨rfl,fun h=>by simp[AV.plainT]at h⟩
 case fn=>obtain⟨_,rfl,_⟩:=h;exact⟨rfl,fun h=>by simp[AV.plainT]at h⟩
 case bsl=>obtain⟨_,rfl⟩:=h;exact⟨rfl,fun h=>by simp[AV.plainT]at h⟩
 case ag=>obtain⟨_,rfl,_⟩:=h;exact⟨rfl,fun h=>by simp[AV.plainT]at h⟩
 all_goals subst h;exact⟨rfl,fun _=>by simp[AV.own]⟩
theorem Nc:∀{xs vs:aA},AV.fits xs vs->vs.all AV.plainT=xs.all AV.plainT
 | [],vs,h=>by simp only[AV.fits]at h;subst h;rfl
 |x::xs,vs,h=>by simp only[AV.fits]at h;obtain⟨v,vs,rfl,e,g⟩:=h;simp only[gF,(Lc e).1,Nc g]
theorem MA:∀{xs vs:aA},AV.fits xs vs->xs.all AV.plainT=true->AV.owns xs vs=[]
 | [],vs,h,_=>by simp[AV.owns]
 |x::xs,vs,h,e=>by simp only[AV.fits]at h;obtain⟨v,vs,rfl,m,g⟩:=h;simp only[gF,aQ]at e;simp only[AV.owns,(Lc m).2 e.1,MA g e.2];rfl
theorem Lv:∀{xs vs:aA},aV xs=none->AV.fits xs vs->aV vs=none
 | [],vs,h,_=>by simp[aV]at h
 |x::xs,vs,h,g=>by
  simp only[AV.fits]at g;obtain⟨v,vs,rfl,e,m⟩:=g;cases x<;>simp only[AV.fit]at e
  case d x=>
   obtain⟨y,rfl,_⟩:=e;simp only[aV,MM]at h⊢
   exact Lv h m
  case ep=>obtain⟨_,rfl,_⟩:=e;rfl
  case fn=>obtain⟨_,rfl,_⟩:=e;rfl
  case bsl=>obtain⟨_,rfl⟩:=e;rfl
  case ag=>obtain⟨_,rfl,_⟩:=e;rfl
  all_goals subst e;rfl
theorem yJ{B:ar}(h:qbe B Bv){b:Nat}(e:aP B agg sz b off=some v):
 ∃u cs ds,aP Bv agg sz b off=some u/\v.fit u/\aT B b=some cs/\aT Bv b=some ds/\AV.fits cs ds/\v.own u=AV.owns ((cs.drop off).take (if agg then sz else 1)) ((ds.drop off).take (if agg then sz else 1))/\off+(if agg then sz else 1)<=cs.length:=by
 unfold aP at e⊢
 obtain⟨cs,m,e⟩:=az.1 e;obtain⟨ds,H,C⟩:=h.get m;rw[H];simp only[a9];cases agg with
 |true=>
  simp only[if_true]at e⊢
  split at e
  ·rename_i w
   have g:=AV.qbr (AV.qbC C off) sz;rw[aw (by rw[<-AV.qao C];exact w)];cases q:aV ((cs.drop off).take sz)with
   |none=>
    rw[q]at e;simp only[jH]at e;split at e
    ·rename_i J
     simp only[aL]at e;subst e
     rw[Lv q g];simp only[jH];rw[Nc g,aw J];have I:=MA g J;exact⟨_,cs,ds,rfl,by simp only[AV.fit];exact⟨_,rfl,g,I⟩,m,rfl,C,by rw[I];simp[AV.own],w⟩
    ·simp at e
   |some Q=>
   rw[q]at e;simp only[jH,aL]at e;subst e;obtain⟨K,G,M,O⟩:=kr q g;rw[G];simp only[jH];refine⟨_,cs,ds,rfl,by simp only[AV.fit,DV.fit];exact⟨_,rfl,_,rfl,M⟩,m,rfl,C,?_,w⟩;rw[O];simp[AV.own,DV.own]
  ·simp at e
 |false=>
  simp only[bL,if_false]at e⊢
  obtain⟨u,q,G⟩:=AV.qce C e;have D:off<cs.length:=(aU.1 e).1;have r:off<ds.length:=(aU.1 q).1;refine⟨u,cs,ds,q,G,m,rfl,C,?_,by omega⟩;rw[dl D,dl r];have N:cs[off]=v:=by rw[eJ D]at e;exact tM e
  have P:ds[off]=u:=by rw[eJ r]at q;exact tM q
  simp[AV.owns,N,P]
theorem KV{cs ds:al}{v:DV}(g:DV.fits cs ds)(h:cut agg sz cs=some v):∃u,cut agg sz ds=some u/\v.fit u:=by
 unfold cut at h⊢
 cases agg with
 |true=>
  simp only[if_true]at h⊢
  split at h
  ·rename_i e
   simp at h;subst h
   rw[aw (by rw[<-DV.qao g];exact e)];exact⟨_,rfl,by simp only[DV.fit];exact⟨_,rfl,DV.qbr g _⟩⟩
  ·simp at h
 |false=>
  simp only[bL,if_false]at h⊢
  exact DV.qce g h
theorem Rel.takeBox(h:Rel A0 T F p k sx sv)(dst:a_){b:Nat}(hl:aP sx.B agg sz b off=some v)(Y:k<=k')(c':Nat):
 ∃u,aP sv.B agg sz b off=some u/\Rel A0 T F p k' (be T (if cN T dst then⟨sx.r,iE sx.B b off (if agg then sz else 1)⟩else sx) dst v) {(sv.put dst u)with c:=c'}:=by
 obtain⟨u,cs,ds,h1,h2,Z,h4,K,h6,h7⟩:=yJ h.boxes hl;refine⟨u,h1,?_⟩;generalize (if agg then sz else 1)=m at h6 h7⊢
 have hb:b<sx.B.length:=by
  rcases eN b sx.B.length with W|W
  ·exact W
  ·have:=jz.1 Z;rw[gU W]at this;simp at this
 have C:bp sx.B sv.B b=AV.owns cs ds:=by unfold bp;rw[Z,h4]
 cases hT:cN T dst with
 |false=>simp only[bL,if_false];exact h.put dst h2 Y (fun h'=>by rw[hT]at h';simp at h') (fun i hi _=>hi) (fun _ hi=> .inl hi) c'
 |true=>
  simp only[if_true];have N:=AV.qbr (AV.qbC K off) m;obtain⟨hc1,x1⟩:=AV.qbm _ _ N;have S:=AV.qao K;have O:splice ds off ((ds.drop off).take m)=ds:=by unfold splice;rw[rO,ZS,wW (by omega),cr,<-List.drop_drop,d7,d7]
  have P:=Im K hc1 off;rw[O]at P;have q:=Jl K hc1 off;rw[O,x1,AV.qc9,dB]at q;have a1:((cs.drop off).take m).length=m:=by simp;omega
  rw[a1]at q;have Q:=Ht (AV.qao K) off m;have H:iE sx.B b off m=sx.B.set b (some (splice cs off (AV.clrs ((cs.drop off).take m)))):=by unfold iE;rw[Z]
  have D:=h.box [] b P hb (by rw[q];exact(by rw[<-C];exact h.held.nodup (.box b):(AV.owns cs ds).Nodup).sublist Q) (fun a M=> .inl (by rw[C];rw[q]at M;exact Q.subset M));have R:sv.B.set b (some ds)=sv.B:=by
   apply jG;intro j
   by_cases J:b=j
   ·subst J
    have:=jz.1 h4;rw[iz,this];simp
   ·rw[dK J]
  rw[R]at D;rw[H];have I:bp (sx.B.set b (some (splice cs off (AV.clrs ((cs.drop off).take m))))) sv.B b=AV.owns (cs.take off) (ds.take off)++AV.owns (cs.drop (off+m)) (ds.drop (off+m)):=by unfold bp;rw[vH hb,h4];exact q
  have e:(AV.owns cs ds).Nodup:=by rw[<-C];exact h.held.nodup (.box b)
  have g:AV.owns cs ds=AV.owns (cs.take off) (ds.take off)++(v.own u++AV.owns (cs.drop (off+m)) (ds.drop (off+m))):=by rw[AV.qbX (AV.qao K) off,AV.qbX (a:=cs.drop off) (c:=ds.drop off) (by simp[S]) m,h6,l_,l_]
  refine D.put dst h2 Y (fun _=>⟨?_,fun a M=> ?_⟩) (fun i hi _=>hi) (fun _ hi=> .inl hi) c'
  ·rw[g]at e
   rw[cJ]at e;exact(cJ.1 e.2.1).1
  ·have x3:a∈AV.owns cs ds:=by rw[g];simp[M]
   have G:a∈aI sx.r sx.B sv.r sv.B (.box b):=by simp only[aI];rw[C];exact x3
   obtain⟨q1,q2,q3⟩:=h.held.opn _ a G;refine⟨q1,q2,fun hf=>q3 (hf.le Y),fun ℓ hℓ hm=> ?_⟩;cases ℓ with
   |reg t=>have:=h.held.apart (.box b) (.reg t) a G hm;simp at this
   |box j=>
    by_cases J:j=b
    ·subst J
     have x2:a∈AV.owns (cs.take off) (ds.take off)++AV.owns (cs.drop (off+m)) (ds.drop (off+m)):=by have w:a∈bp (sx.B.set j (some (splice cs off (AV.clrs ((cs.drop off).take m))))) sv.B j:=hm;rw[I]at w;exact w
     rw[g]at e;rw[cJ]at e;obtain⟨_,n2,n3⟩:=e;rw[cJ]at n2;rcases bC.1 x2 with h8|h8
     ·exact n3 a h8 a (by simp[M]) rfl
     ·exact n2.2.2 a M a h8 rfl
    ·have w:a∈bp (sx.B.set b (some (splice cs off (AV.clrs ((cs.drop off).take m))))) sv.B j:=hm
     rw[KO (fun he=>J he.symm)]at w;have:=h.held.apart (.box b) (.box j) a G w;simp at this;exact J this.symm
theorem AZ(dst:a_)(v:AV):({(s.put dst v)with c:=s.c}:St)=s.put dst v:=by cases dst<;>rfl
theorem Ad(dst:a_)(v:AV):(s.put dst v).c=s.c:=by cases dst<;>rfl
end
variable{af:ae}{gd:mg}{z:al}{bytes:Nat}
section
variable {A0:Ids} {T:ae} {F:Id->Prop} {p:Id} {sx sx':XS} {sv:St} {X:cq} {V:ct} {lin:Nat->ae} {draw:Bool} {L0 i:Nat}
def eM(A0:Ids)(T:ae)(F:Id->Prop)(p:Id)(V:ct)(draw:Bool)(L0 i:Nat)(o:VOper)(sv:St)(sx':XS):Prop:=∃e,aY V p draw L0 i o sv=some e/\Rel A0 T F p (sv.c+i+1) sx' e/\e.c=sv.c
theorem ew{o:VOper}(h:aY V p draw L0 i o sv=some (s.put o.dst v))(hc:s.c=sv.c){e:XS}(g:Rel A0 T F p (sv.c+i+1) e {(s.put o.dst v)with c:=sv.c}):eM A0 T F p V draw L0 i o sv e:=by
 refine⟨_,h,?_,by rw[Ad,hc]⟩;rw[<-hc]at g⊢
 rw[AZ]at g;exact g
theorem Vm{dst:a_}(h:Rel A0 T F p (sv.c+i) sx sv)(m:bm X lin T draw L0 ⟨dst,.move x,gd,af⟩ sx=some sx'):eM A0 T F p V draw L0 i ⟨dst,.move x,gd,af⟩ sv sx':=by simp only[bm]at m;obtain⟨a,g,rfl⟩:=ay.1 m;obtain⟨v,e,q⟩:=h.get g;refine ew (sv:=sv) (s:=sv) (v:=v) (by simp only[aY,aK,e,bH]) rfl (h.give dst [x] q ?_ (fun i hi=>⟨x,by simp,by rw[fl g e];exact hi⟩) (ch _) _);rw[<-fl g e];exact h.qa8 x
theorem Rel.getBool(h:Rel A0 T F p (sv.c+i) sx sv){b:Bool}(g:bq sx.r x=some (ax b)):x.get sv.r=some (ax b):=by obtain⟨v,m,e⟩:=h.get g;simp only[AV.fit,DV.fit]at e;obtain⟨y,rfl,rfl⟩:=e;exact m
theorem Rel.getInt(h:Rel A0 T F p (sv.c+i) sx sv){k:IntKind}{n:Int}(g:bq sx.r x=some (.d (.int k n))):x.get sv.r=some (.d (.int k n)):=by obtain⟨v,m,e⟩:=h.get g;simp only[AV.fit,DV.fit]at e;obtain⟨y,rfl,rfl⟩:=e;exact m
theorem Rel.getPtr(h:Rel A0 T F p (sv.c+i) sx sv){b:Nat}(g:bq sx.r x=some (.ptr b o)):x.get sv.r=some (.ptr b o):=by obtain⟨v,m,e⟩:=h.get g;simp only[AV.fit]at e;subst e;exact m
theorem Vt{dst:a_}{c:VX}(h:Rel A0 T F p (sv.c+i) sx sv)(m:bm X lin T draw L0 ⟨dst,.pick c x y,gd,af⟩ sx=some sx'):eM A0 T F p V draw L0 i ⟨dst,.pick c x y,gd,af⟩ sv sx':=by
 simp only[bm]at m;split at m
 ·rename_i hc
  obtain⟨a,g,rfl⟩:=ay.1 m;obtain⟨v,e,q⟩:=h.get g;refine ew (sv:=sv) (s:=sv) (v:=v) (by simp only[aY,aK,h.getBool hc,e,bH]) rfl (h.give dst [x] q ?_ (fun i hi=>⟨x,by simp,by rw[fl g e];exact hi⟩) (ch _) _);rw[<-fl g e];exact h.qa8 x
 ·rename_i hc
  obtain⟨a,g,rfl⟩:=ay.1 m;obtain⟨v,e,q⟩:=h.get g;refine ew (sv:=sv) (s:=sv) (v:=v) (by simp only[aY,aK,h.getBool hc,e,bH]) rfl (h.give dst [y] q ?_ (fun i hi=>⟨y,by simp,by rw[fl g e];exact hi⟩) (ch _) _);rw[<-fl g e];exact h.qa8 y
 ·simp at m
theorem Fs{B:ar}(h:cO B n=true):n<B.length:=by
 unfold cO at h;split at h
 ·rename_i e;exact(aU.1 e).1
 ·simp at h
theorem qO6{dst:a_}(h:Rel A0 T F p (sv.c+i) sx sv)(e:bm X lin T draw L0 ⟨dst,.alloc k z,gd,af⟩ sx=some sx'):eM A0 T F p V draw L0 i ⟨dst,.alloc k z,gd,af⟩ sv sx':=by
 simp only[bm]at e;split at e
 ·rename_i hc
  simp at e;subst e
  have q:AV.fits (z.map fun z=>AV.d z.cn1) (z.map .d):=by have:=AV.qiY (DV.qiZ z);rw[et]at this;exact this
  have g:AV.owns (z.map fun z=>AV.d z.cn1) (z.map .d)=[]:=by
   have:z.map (fun z=>AV.d z.cn1)=(z.map DV.cn1).map .d:=by rw[et];rfl
   rw[this,AV.qiW,DV.qg8]
  have m:=h.box [] (L0+k) q (Fs hc.1) (by rw[g];simp) (by rw[g];simp);refine ew (sv:=sv) (s:={sv with B:=sv.B.set (L0+k) (some (z.map .d))}) (v:= .ptr (L0+k) 0) (by simp only[aY];rw[aw ⟨by rw[h.boxes.free];exact hc.1,hc.2⟩]) rfl ?_;exact m.put0 dst (by simp[AV.fit]) (by simp[AV.own]) (ch _) _
 ·simp at e
theorem qYz{dst:a_}(h:Rel A0 T F p (sv.c+i) sx sv)(e:bm X lin T draw L0 ⟨dst,.box k x,gd,af⟩ sx=some sx'):eM A0 T F p V draw L0 i ⟨dst,.box k x,gd,af⟩ sv sx':=by
 simp only[bm]at e;obtain⟨a,q,e⟩:=az.1 e;obtain⟨v,g,m⟩:=h.get q;split at e
 ·rename_i hc
  simp at e;subst e
  have u:=AV.qa5 m;have r:=AV.qdy m;have w:=h.box [x] (L0+k) u (Fs hc.1) (by rw[r,<-fl q g];exact h.qa8 x) (fun i hi=> .inr ⟨x,by simp,by rw[fl q g,<-r];exact hi⟩);refine ew (sv:=sv) (s:={sv with B:=sv.B.set (L0+k) (some v.cells)}) (v:= .ptr (L0+k) 0) (by simp only[aY,g,a9];rw[aw ⟨by rw[h.boxes.free];exact hc.1,by rw[AV.qbB u];exact hc.2.1,by rw[AV.qkV _ _ _ m];exact hc.2.2⟩]) rfl ?_;exact w.put0 dst (by simp[AV.fit]) (by simp[AV.own]) (ch _) _
 ·simp at e
theorem qO5{dst:a_}{ps:iX}(h:Rel A0 T F p (sv.c+i) sx sv)(r:dn T (ps.map fun q=>q.2.2)=true)(g:bm X lin T draw L0 ⟨dst,.build z ps,gd,af⟩ sx=some sx'):eM A0 T F p V draw L0 i ⟨dst,.build z ps,gd,af⟩ sv sx':=by
 simp only[bm]at g;obtain⟨cs,C,rfl⟩:=ay.1 g;obtain⟨ds,m,u,G,D⟩:=G7 h ps _ z cs r C (DV.qiZ z) (by rw[DV.qg8];simp) (by rw[DV.qg8];simp);refine ew (sv:=sv) (s:=sv) (v:= .d (.agg ds)) (by simp only[aY,aK,m,bH]) rfl (h.give dst _ (by simp only[AV.fit,DV.fit];exact⟨_,rfl,_,rfl,u⟩) (by simpa[AV.own,DV.own]using G) (fun i hi=> ?_) (ch _) _);rcases D i (by simpa[AV.own,DV.own]using hi)with e|⟨x,e,w⟩
 ·rw[DV.qg8]at e;simp at e
 ·exact⟨x,e,w⟩
theorem Yo(n:Nat)(z:DV):DV.fits (List.replicate n z.cn) (List.replicate n z):=by
 rw[DV.qbl];refine⟨by simp,fun i x y e g=> ?_⟩;rw[Gf]at e g;split at e<;>simp_all
 rw[<-e,<-g];exact DV.qsW _
theorem FK(n:Nat)(z:DV)(l:al):DV.owns (List.replicate n z.cn) l=[]:=by
 induction n generalizing l with
 |zero=>simp[DV.owns]
 |succ n e=>cases l<;>simp[Fg,DV.owns,DV.qId,e]
theorem pz(p:Id)(k:Nat)(A:Ids):∀a,Ids.add (k::p) A a=true->A a=true\/(Fut p 0 a/\¬Fut p (k+1) a):=by
 intro a e;simp only[Ids.add,cI,bu]at e;rcases e with rfl|e
 ·exact .inr ⟨(Fut.self p k).le (db _),Fut.qkT (j1 _)⟩
 ·exact .inl e
theorem Or{dst:a_}{z:DV}{ps:i9}(h:Rel A0 T F p (sv.c+i) sx sv)(hl:dn T (ps.map fun q=>q.2)=true)(I:bm X lin T draw L0 ⟨dst,.buildSlice sz z n ps,gd,af⟩ sx=some sx'):eM A0 T F p V draw L0 i ⟨dst,.buildSlice sz z n ps,gd,af⟩ sv sx':=by
 simp only[bm]at I;split at I
 ·rename_i hc
  obtain⟨cs,S,rfl⟩:=ay.1 I;obtain⟨ds,Z,O,h0,Y,W⟩:=Lh h sz ps _ (List.replicate n z) cs hl S (Yo n z) (fun e K=>by rw[(List.mem_replicate.1 K).2];exact hc.1) (by rw[FK];simp) (by rw[FK];simp);have u:(AV.d (.sl U cs)).fit (.d (.sl (.own ((sv.c+i)::p) sz) ds)):=by
   simp only[AV.fit,DV.fit];refine⟨_,rfl,_,_,rfl,O,.inr ⟨rfl,?_⟩⟩
   by_cases M:cs.length=0
   ·exact .inl ⟨M,.inr ⟨_,_,rfl⟩⟩
   ·exact .inr ⟨M,_,_,rfl,h0⟩
  have m:∀a,a∈DV.owns cs ds->∃x,x∈ps.map (fun q=>q.2)/\a∈cv sx.r sv.r x:=fun a g=>by
   rcases W a g with D|D
   ·rw[FK]at D;simp at D
   ·exact D
  have G:∀a,a∈(AV.d (.sl U cs)).own (.d (.sl (.own ((sv.c+i)::p) sz) ds))->a=(sv.c+i)::p\/a∈DV.owns cs ds:=by
   intro a g;simp only[AV.own,DV.own,bC]at g;rcases g with g|g
   ·split at g<;>simp[Tag.ids]at g
    exact .inl g
   ·exact .inr g
  have w:∀ℓ,(sv.c+i)::p∉aI sx.r sx.B sv.r sv.B ℓ:=fun ℓ C=>(h.held.opn ℓ _ C).2.2 (Fut.self p _)
  have J:((AV.d (.sl U cs)).own (.d (.sl (.own ((sv.c+i)::p) sz) ds))).Nodup:=by
   simp only[AV.own,DV.own];rw[cJ];refine⟨by split<;>simp[Tag.ids],Y,fun a g b hb K=> ?_⟩;split at g<;>simp[Tag.ids]at g
   subst g;subst K
   obtain⟨x,_,H⟩:=m _ hb;obtain⟨P,rfl,_,h8⟩:=h.qdL H;exact w (.reg P) h8
  refine ew (sv:=sv) (s:={sv with A:=Ids.add ((sv.c+i)::p) sv.A}) (v:= .d (.sl (.own ((sv.c+i)::p) sz) ds)) (by simp only[aY,Z,bH];rw[aw hc]) rfl ?_;cases hT:cN T dst with
  |false=>rw[Hm hT];exact h.put dst u (ch _) (fun h'=>by rw[hT]at h';simp at h') (fun a g _=>by simp[Ids.add,g]) (pz p _ sv.A) _
  |true=>
   rw[Ni hT];refine(h.drops _).put dst u (ch _) (fun _=>⟨J,fun a g=> ?_⟩) (fun a g _=>by simp[Ids.add,g]) (pz p _ sv.A) _;rcases G a g with rfl|g
   ·refine⟨by simp[Ids.add],fun hF=>(h.held.fr _ hF).2 (Fut.self p _),Fut.qkT (j1 _),fun ℓ _ C=> ?_⟩
    refine w ℓ ?_;cases ℓ with
    |reg t=>simp only[aI,jK]at C⊢;split at C<;>first|(simp at C;done)|exact C
    |box j=>exact C
   ·obtain⟨x,D,H⟩:=m a g
    obtain⟨Q,R,N⟩:=h.qb5 H;exact⟨by simp[Ids.add,Q],R,fun hf=>N (hf.le (ch _)),fun ℓ _=>h.qcA D H ℓ⟩
 ·simp at I
theorem X_{dst:a_}{z:DV}(h:Rel A0 T F p (sv.c+i) sx sv)(e:bm X lin T draw L0 ⟨dst,.makeSlice k sz bytes z x,gd,af⟩ sx=some sx'):eM A0 T F p V draw L0 i ⟨dst,.makeSlice k sz bytes z x,gd,af⟩ sv sx':=by
 simp only[bm]at e;split at e
 ·rename_i C n w
  split at e
  ·rename_i hc
   simp at e;subst e
   have r:DV.fits ((List.replicate n.toNat z.cn).flatMap DV.cells) ((List.replicate n.toNat z).flatMap DV.cells):=by
    generalize n.toNat=m
    induction m with
    |zero=>simp[DV.fits]
    |succ m q=>simp only[Fg,eI];exact DV.qaW (DV.qa5 (DV.qsW z)) q
   have g:DV.owns ((List.replicate n.toNat z.cn).flatMap DV.cells) ((List.replicate n.toNat z).flatMap DV.cells)=[]:=by
    generalize n.toNat=m
    induction m with
    |zero=>simp[DV.owns]
    |succ m q=>simp only[Fg,eI];rw[DV.qaT (DV.qao (DV.qa5 (DV.qsW z))),DV.qdy (DV.qsW z),DV.qId,q];rfl
   have u:=h.box [] (L0+k) (AV.qiY r) (Fs hc.2.1) (by rw[AV.qiW,g];simp) (by rw[AV.qiW,g];simp);refine ew (sv:=sv) (s:={sv with B:=sv.B.set (L0+k) (some (((List.replicate n.toNat z).flatMap DV.cells).map .d))}) (v:= .bsl ((sv.c+i)::p) (isAgg z) (L0+k) sz n.toNat) (by simp only[aY,h.getInt w];rw[aw ⟨hc.1,by rw[h.boxes.free];exact hc.2.1,hc.2.2⟩];cases z<;>rfl) rfl ?_;exact u.put0 dst (by simp[AV.fit]) (by simp[AV.own]) (ch _) _
  ·simp at e
 ·simp at e
theorem DV.qsU:∀(xs ys:al) (n:Nat),(DV.owns (xs.take n) (ys.take n)).Sublist (DV.owns xs ys)
 | [],ys,n=>by simp[DV.owns]
 |x::xs,[],n=>by simp[DV.owns]
 |x::xs,y::ys,0=>by simp[DV.owns]
 |x::xs,y::ys,n+1=>by simp only[se,DV.owns];exact ig (co _) (DV.qsU xs ys n)
theorem qRF{cs ds:al}{v u:DV}(h:cut agg sz cs=some v)(h':cut agg sz ds=some u):(v.own u).Sublist (DV.owns cs ds):=by
 unfold cut at h h';cases agg with
 |true=>
  simp only[if_true]at h h';split at h
  ·split at h'
   ·simp at h h';subst h;subst h'
    simp only[DV.own];exact DV.qsU cs ds sz
   ·simp at h'
  ·simp at h
 |false=>simp only[bL,if_false]at h h';exact DV.qcB h h'
theorem qSM{dst:a_}(h:Rel A0 T F p (sv.c+i) sx sv)(e:bm X lin T draw L0 ⟨dst,.load agg sz x,gd,af⟩ sx=some sx'):eM A0 T F p V draw L0 i ⟨dst,.load agg sz x,gd,af⟩ sv sx':=by
 simp only[bm]at e;split at e
 ·rename_i cs r
  obtain⟨v,m,rfl⟩:=ay.1 e;obtain⟨u,q,C⟩:=h.get r;simp only[AV.fit]at C;obtain⟨ds,rfl,K⟩:=C;obtain⟨w,H,J⟩:=KV K m;have G:=qRF m H;have D:=fl r q;simp only[AV.own]at D;refine ew (sv:=sv) (s:=sv) (v:= .d w) (by simp only[aY,q,H,bH]) rfl (h.give dst [x] (by simp only[AV.fit];exact⟨_,rfl,J⟩) ?_ (fun i hi=>⟨x,by simp,by rw[D];exact G.subset (by simpa only[AV.own]using hi)⟩) (ch _) _);have g:=h.qa8 x;rw[D]at g;simp only[AV.own];exact g.sublist G
 ·rename_i b off r
  split at e
  ·simp at e
  ·rename_i I
   obtain⟨v,m,rfl⟩:=ay.1 e;obtain⟨u,q,C⟩:=h.takeBox dst m (ch _) sv.c;exact ew (sv:=sv) (s:=sv) (v:=u) (by simp only[aY,h.getPtr r,q,bH];rw[au I]) rfl C
 ·simp at e
theorem M6{dst:a_}{init:Bool}{a:VX}(h:Rel A0 T F p (sv.c+i) sx sv)(D:bm X lin T draw L0 ⟨dst,.store init sz a x,gd,af⟩ sx=some sx'):eM A0 T F p V draw L0 i ⟨dst,.store init sz a x,gd,af⟩ sv sx':=by
 simp only[bm]at D;split at D
 ·rename_i b off v W Q
  split at D
  ·simp at D
  ·rename_i Z
   obtain⟨B',P,rfl⟩:=ay.1 D;unfold gS at P;obtain⟨cs,N,J⟩:=az.1 P;split at J
   ·rename_i hc
    simp at J;subst J
    obtain⟨u,S,I⟩:=h.get Q;obtain⟨ds,R,H⟩:=h.boxes.get N;have w:=AV.qa5 I;have Y:b<sx.B.length:=by
     rcases eN b sx.B.length with K|K
     ·exact K
     ·have:=jz.1 N;rw[gU K]at this;simp at this
    have g:bp sx.B sv.B b=AV.owns cs ds:=by unfold bp;rw[N,R]
    have m:AV.owns v.cells u.cells=cv sx.r sv.r x:=by rw[AV.qdy I,fl Q S]
    have C:=Ht (AV.qao H) off v.cells.length;have O:=Jl H w off;have G:=h.box [x] b (Im H w off) Y (by
     rw[O];refine Cx C (by rw[<-g];exact h.held.nodup (.box b)) (by rw[m];exact h.qa8 x) (fun q e hm=> ?_);rw[m]at e;obtain⟨n,rfl,hn,M⟩:=h.qdL e;have:=h.held.apart (.reg n) (.box b) q M (by simp only[aI];rw[g];exact hm);simp at this) (fun q e=>by
     rw[O]at e;simp only[bC]at e;rcases e with(e|e)|e
     ·exact .inl (by rw[g];exact C.subset (by simp[e]))
     ·exact .inr ⟨x,by simp,by rw[<-m];exact e⟩
     ·exact .inl (by rw[g];exact C.subset (by simp[e])))
    refine ew (sv:=sv) (s:={sv with B:=sv.B.set b (some (splice ds off u.cells))}) (v:= .und) (by
     simp only[aY,h.getPtr W,S];rw[au Z];simp only[jr,R,a9];rw[aw ⟨by rw[AV.qbH I];exact hc.1,by rw[<-AV.qao H];exact hc.2.1,by rw[AV.qbB w];exact hc.2.2.1,by rw[AV.qkV _ _ _ I];exact hc.2.2.2⟩];rfl) rfl ?_
    exact G.put0 dst (by simp[AV.fit]) (by simp[AV.own]) (ch _) _
   ·simp at J
 ·simp at D
theorem RU{dst:a_}{a:VX}{av:ae}(h:Rel A0 T F p (sv.c+i) sx sv)(g:bm X lin T draw L0 ⟨dst,.storeN sz a x av,gd,af⟩ sx=some sx'):eM A0 T F p V draw L0 i ⟨dst,.storeN sz a x av,gd,af⟩ sv sx':=by
 simp only[bm]at g;split at g
 ·rename_i b off v D J
  split at g
  ·simp at g
  ·rename_i hc
   simp only[cI,not_or,fT,FA]at hc;have u:bm X lin T draw L0 ⟨dst,.store false sz a x,gd,af⟩ sx=some sx':=by simp only[bm,D,J];rw[au hc.1];exact g
   obtain⟨q,e,k2⟩:=M6 (X:=X) (V:=V) h u;refine⟨q,?_,k2⟩;have m:eZ sv.r b av=true:=by
    unfold eZ;rw[bB];intro t N;have:=bB.1 hc.2 t N;split at this
    ·rename_i R C K
     obtain⟨y,M,I⟩:=h.regs t _ K;simp only[AV.fit]at I;subst I
     rw[M];exact this
    ·simp at this
   simp only[aY,h.getPtr D]at e⊢
   split at e
   ·rename_i Q G w H P
    simp only[aL,AV.ptr.injEq]at H;obtain⟨rfl,rfl⟩:=H;split at e
    ·simp at e
    ·rename_i O
     rw[au (by simp only[cI,not_or];exact⟨O,by rw[m];simp⟩)];exact e
   ·simp at e
 ·simp at g
end
section
variable {A0:Ids} {T:ae} {F:Id->Prop} {p:Id} {sx sx':XS} {sv:St} {X:cq} {V:ct} {lin:Nat->ae} {draw:Bool} {L0 i:Nat}
theorem Lg(h:DV.fits xs ys)(w:∀e:DV,e∈xs->e.cells.length=sz/\e.cells.all DV.isCell=true):∀e:DV,e∈ys->e.cells.length=sz/\e.cells.all DV.isCell=true:=by
 intro e G;obtain⟨j,q⟩:=dH.1 G;obtain⟨C,r⟩:=(DV.qbl _ _).1 h;have g:j<xs.length:=by rw[C];exact(aU.1 q).1
 have m:=r j xs[j] e (by simp[g]) q;obtain⟨D,u⟩:=w _ (jt g);exact⟨by rw[DV.qbH m];exact D,by rw[DV.qbB (DV.qa5 m)];exact u⟩
theorem I2(h:DV.fits xs ys)(u:∀e:DV,e∈xs->e.cells.length=sz):∀e:DV,e∈ys->e.cells.length=sz:=by
 intro e C;obtain⟨j,m⟩:=dH.1 C;obtain⟨w,q⟩:=(DV.qbl _ _).1 h;have g:j<xs.length:=by rw[w];exact(aU.1 m).1
 have r:=q j xs[j] e (by simp[g]) m;rw[DV.qbH r];exact u _ (jt g)
theorem Wp{dst:a_}(h:Rel A0 T F p (sv.c+i) sx sv)(hl:dn T [x,y]=true)(hx:bm X lin T draw L0 ⟨dst,.append sz bytes x y,gd,af⟩ sx=some sx'):eM A0 T F p V draw L0 i ⟨dst,.append sz bytes x y,gd,af⟩ sv sx':=by
 simp only[bm]at hx;split at hx
 ·rename_i v w h1 h2
  obtain⟨u,K,rfl⟩:=ay.1 hx;obtain⟨v',h4,h5⟩:=h.get h1;obtain⟨w',h6,h7⟩:=h.get h2;have ox:=fl h1 h4;have oy:=fl h2 h6;simp only[AV.fit]at h5 h7;obtain⟨v',rfl,h5⟩:=h5;obtain⟨w',rfl,h7⟩:=h7;have a1:∀L:cm,x∈(if cN T dst then [x,y]else [x]):=fun _=>by split<;>simp
  have J:∀a,a∈cv sx.r sv.r x->a∉cv sx.r sv.r y:=fun a q=>h.qek (fun n hx hn D=>by
   subst hx;subst D
   exact(l6 hl).1 n rfl hn (by simp)) q
  unfold cK at K;split at K
  ·rename_i g xs gy ys
   simp only[DV.fit]at h5 h7;obtain⟨g',m,rfl,Z,htx⟩:=h5;obtain⟨gy',C,rfl,c2,hty⟩:=h7;have x1:=DV.qao Z;have R:=DV.qao c2;split at K
   ·rename_i a3
    have hall:∀e:DV,e∈ys->e.cells.length=sz/\e.cells.all DV.isCell=true:=by intro e D;have:=bB.1 a3 e D;simp only[bu]at this;exact this
    have Q:=Lg c2 hall;have O:C.all (fun e=>decide (e.cells.length=sz/\e.cells.all DV.isCell=true))=true:=by rw[bB];intro e D;simp only[bu];exact Q e D
    split at K
    ·rename_i a2
     simp at a2;subst a2
     have:C=[]:=by rw[<-List.length_eq_zero_iff];simpa using R.symm
     subst this;simp at K;subst K
     refine ew (sv:=sv) (s:=sv) (v:= .d (.sl g' m)) (by simp only[aY,h4,h6];simp[fC]) rfl ?_;have hft:(AV.d (.sl g xs)).fit (.d (.sl g' m)):=by simp only[AV.fit,DV.fit];exact⟨_,rfl,_,_,rfl,Z,htx⟩
     refine(h.drops _).put dst hft (ch _) (fun _=>⟨by rw[<-ox];exact h.qa8 x,fun a q=> ?_⟩) (fun a q _=>q) (fun _ hi=> .inl hi) _;rw[<-ox]at q;obtain⟨q1,q2,q3⟩:=h.qb5 q;exact⟨q1,q2,fun hf=>q3 (hf.le (ch _)),fun ℓ _=>h.qcA (a1 []) q ℓ⟩
    ·rename_i hne0
     have b2:ys≠[]:=by simpa using hne0
     have hne':C≠[]:=by intro D;subst D;simp at R;exact b2 R
     have M:C.isEmpty=false:=by cases C<;>simp_all
     split at K
     ·rename_i hc
      obtain⟨S,rfl,Y⟩:=hc;simp at K;subst K
      have hxall:∀e:DV,e∈xs->e.cells.length=sz:=by intro e D;have:=bB.1 Y e D;simpa using this
      have H:(m.length+C.length)*bytes<=140737488355328:=by rw[<-x1,<-R];exact S
      have hel:∀e:DV,e∈m++C->e.cells.length=sz:=by
       intro e D;rcases bC.1 D with D|D
       ·exact I2 Z hxall e D
       ·exact(Q e D).1
      have hfit:(AV.d (.sl U (xs++ys))).fit (.d (.sl (.own ((sv.c+i)::p) sz) (m++C))):=by simp only[AV.fit,DV.fit];refine⟨_,rfl,_,_,rfl,DV.qaW Z c2,.inr ⟨rfl,.inr ⟨by simp[b2],_,_,rfl,hel⟩⟩⟩
      have hown:(AV.d (.sl U (xs++ys))).own (.d (.sl (.own ((sv.c+i)::p) sz) (m++C)))=((sv.c+i)::p)::(DV.owns xs m++DV.owns ys C):=by simp only[AV.own,DV.own];rw[aw ⟨trivial,by simp[b2]⟩,DV.qaT x1];simp[Tag.ids]
      have W:∀a,a∈DV.owns xs m->a∈cv sx.r sv.r x:=fun a q=>by rw[ox];simp[AV.own,DV.own,q]
      have N:∀a,a∈DV.owns ys C->a∈cv sx.r sv.r y:=fun a q=>by rw[oy];simp[AV.own,DV.own,q]
      have x3:∀ℓ,(sv.c+i)::p∉aI sx.r sx.B sv.r sv.B ℓ:=fun ℓ G=>(h.held.opn ℓ _ G).2.2 (Fut.self p _)
      have P:∀z,(sv.c+i)::p∉cv sx.r sv.r z:=fun z G=>by obtain⟨n,rfl,_,h8⟩:=h.qdL G;exact x3 (.reg n) h8
      have hnd:(((sv.c+i)::p)::(DV.owns xs m++DV.owns ys C)).Nodup:=by
       rw[ju,cJ];refine⟨fun G=> ?_,(h.qa8 x).sublist (by rw[ox];simp only[AV.own,DV.own];exact gV _ _),(h.qa8 y).sublist (by rw[oy];simp only[AV.own,DV.own];exact gV _ _),fun a q b hb D=> ?_⟩
       ·rcases bC.1 G with G|G
        ·exact P x (W _ G)
        ·exact P y (N _ G)
       ·subst D;exact J a (W a q) (N a hb)
      have hV:∃A',fC sv ((sv.c+i)::p) sz bytes (.sl g' m) (.sl gy' C)=some (.d (.sl (.own ((sv.c+i)::p) sz) (m++C)),{sv with A:=A'})/\A' ((sv.c+i)::p)=true/\
       (∀a,sv.A a=true->(a∉cv sx.r sv.r x\/a∈DV.owns xs m)->A' a=true)/\∀a,A' a=true->sv.A a=true\/(Fut p 0 a/\¬Fut p (sv.c+i+1) a):=by
       rcases htx with h8|⟨_,h8⟩
       ·exact absurd h8 (by decide)
       rcases h8 with⟨h9,h10⟩|⟨h9,a0,sz',rfl,h11⟩
       ·have hx0:m=[]:=by rw[<-List.length_eq_zero_iff];omega
        subst hx0;refine⟨Ids.add ((sv.c+i)::p) sv.A,?_,by simp[Ids.add],fun a q _=>by simp[Ids.add,q],pz p _ sv.A⟩;have hb0:(([]:al).length+C.length)*bytes<=140737488355328:=H;unfold fC;simp only;rw[aw O,M];simp only[bL,if_false];rw[aw hb0];rcases h10 with rfl|⟨a0,s0,rfl⟩<;>simp
       ·have hxne:m≠[]:=by intro D;subst D;simp at x1;exact h9 (by rw[x1];rfl)
        have b1:m.isEmpty=false:=by cases m<;>simp_all
        have hs:sz'=sz:=by obtain⟨e,D⟩:=nc m hxne;rw[<-h11 e D,hel e (by simp[D])]
        have x2:a0∈cv sx.r sv.r x:=by rw[ox];simp only[AV.own,DV.own];rw[aw ⟨trivial,h9⟩];simp[Tag.ids]
        obtain⟨ha0,_,_⟩:=h.qb5 x2;refine⟨Ids.add ((sv.c+i)::p) (Ids.del a0 sv.A),?_,by simp[Ids.add],fun a q I=> ?_,fun a q=>(pz p _ _ a q).imp_left fun h=>by simp[Ids.del]at h;exact h.2⟩
        ·unfold fC
         simp only;rw[aw O,M];simp only[bL,if_false];rw[aw H,b1];simp only[bL,if_false];rw[aw ⟨hs,ha0⟩]
        ·have hne2:a≠a0:=by
          rintro rfl
          rcases I with I|I
          ·exact I x2
          ·have:=h.qa8 x
           rw[ox]at this;simp only[AV.own,DV.own]at this;rw[aw ⟨trivial,h9⟩]at this;simp only[Tag.ids,EU,ju]at this;exact this.1 I
         simp[Ids.add,Ids.del,hne2,q]
      obtain⟨A',hV1,hV2,hV3,hV4⟩:=hV;refine ew (sv:=sv) (s:={sv with A:=A'}) (v:= .d (.sl (.own ((sv.c+i)::p) sz) (m++C))) (by simp only[aY,h4,h6,hV1,bH]) rfl ?_;refine(h.drops _).put dst hfit (ch _) (fun hT=> ?_) (fun a q I=>hV3 a q (.inl ?_)) hV4 _
      ·rw[hown]
       refine⟨hnd,fun a q=> ?_⟩;simp only[hT,if_true];rcases bK.1 q with rfl|q
       ·refine⟨hV2,fun hF=>(h.held.fr _ hF).2 (Fut.self p _),Fut.qkT (j1 _),fun ℓ _ G=> ?_⟩
        refine x3 ℓ ?_;cases ℓ with
        |reg t=>simp only[aI,jK]at G⊢;split at G<;>first|(simp at G;done)|exact G
        |box j=>exact G
       ·rcases bC.1 q with q|q
        ·obtain⟨q1,q2,q3⟩:=h.qb5 (W a q)
         exact⟨hV3 a q1 (.inr q),q2,fun hf=>q3 (hf.le (ch _)),fun ℓ _=>h.qcA (by simp) (W a q) ℓ⟩
        ·obtain⟨q1,q2,q3⟩:=h.qb5 (N a q)
         exact⟨hV3 a q1 (.inl fun G=>J a G (N a q)),q2,fun hf=>q3 (hf.le (ch _)),fun ℓ _=>h.qcA (by simp) (N a q) ℓ⟩
      ·intro G
       rcases I with hF|⟨ℓ,hℓ⟩
       ·exact(h.qb5 G).2.1 hF
       ·exact h.qcA (a1 []) G ℓ hℓ
     ·simp at K
   ·simp at K
  ·simp at K
 ·simp at hx
theorem N8{dst:a_}{yy ix:VX}{t9:Nat}(h:Rel A0 T F p (sv.c+i) sx sv)(hl:dn T [x,y]=true)(hx:bm X lin T draw L0 ⟨dst,.append1 sz bytes x yy ix y t9,gd,af⟩ sx=some sx'):eM A0 T F p V draw L0 i ⟨dst,.append1 sz bytes x yy ix y t9,gd,af⟩ sv sx':=by
 simp only[bm]at hx;split at hx
 ·rename_i g xs gz z kk n w h1 hy1 hi1 h2
  split at hx
  ·rename_i hc0
   obtain⟨hd0,hn0,hz1,hz2,hw1,hw2,ht9⟩:=hc0;obtain⟨u,W,rfl⟩:=ay.1 hx;obtain⟨v',h4,h5⟩:=h.get h1;obtain⟨w',h6,h7⟩:=h.get h2;obtain⟨z0,hy2,K⟩:=h.get hy1;have hi2:=h.getInt hi1;have ox:=fl h1 h4;have oy:=fl h2 h6;simp only[AV.fit]at h5 h7 K;obtain⟨v',rfl,h5⟩:=h5;obtain⟨w',rfl,h7⟩:=h7;obtain⟨z1,rfl,K⟩:=K;simp only[DV.fit,DV.fits]at K;obtain⟨gz',zs,rfl,⟨z',zs',rfl,hzf,rfl⟩,_⟩:=K;have hzl:z'.cells.length=sz:=by rw[DV.qbH hzf];exact hz1
   have hzc:z'.cells.all DV.isCell=true:=by rw[DV.qbB (DV.qa5 hzf)];exact hz2
   have hwl:w'.cells.length=sz:=by rw[DV.qbH h7];exact hw1
   have hwc:w'.cells.all DV.isCell=true:=by rw[DV.qbB (DV.qa5 h7)];exact hw2
   have ht9v:=h.no t9 ht9;have hxin:∀L:cm,x∈(if cN T dst then [x,y]else [x]):=fun _=>by split<;>simp
   have J:∀a,a∈cv sx.r sv.r x->a∉cv sx.r sv.r y:=fun a C=>h.qek (fun n hx hn D=>by
    subst hx;subst D
    exact(l6 hl).1 n rfl hn (by simp)) C
   simp only[DV.fit]at h5;obtain⟨g',q,rfl,hfx,htx⟩:=h5;have Z:DV.fits [w] [w']:=by simp only[DV.fits];exact⟨_,_,rfl,h7,rfl⟩
   have hyx:∀a,a∈DV.owns [w] [w']->a∈cv sx.r sv.r y:=fun a C=>by rw[oy];simpa[AV.own,DV.owns]using C
   have hyn:(DV.owns [w] [w']).Nodup:=by have:=h.qa8 y;rw[oy]at this;simpa[AV.own,DV.owns]using this
   obtain⟨ys,b2⟩:∃ys,ys=[w]:=⟨_,rfl⟩;obtain⟨m,M⟩:∃m,m=[w']:=⟨_,rfl⟩;rw[<-b2,<-M]at Z hyx hyn;rw[<-b2]at W;unfold cK at W;simp only at W;have S:=DV.qao hfx;have hly:=DV.qao Z;split at W
   ·rename_i b1
    have hall:∀e:DV,e∈ys->e.cells.length=sz/\e.cells.all DV.isCell=true:=by intro e D;have:=bB.1 b1 e D;simp only[bu]at this;exact this
    have R:=Lg Z hall;have N:m.all (fun e=>decide (e.cells.length=sz/\e.cells.all DV.isCell=true))=true:=by rw[bB];intro e D;simp only[bu];exact R e D
    split at W
    ·rename_i a2
     rw[b2]at a2;simp at a2
    ·rename_i hne0
     have c2:ys≠[]:=by simpa using hne0
     have hne':m≠[]:=by intro D;subst D;simp at hly;exact c2 hly
     have P:m.isEmpty=false:=by rw[M];rfl
     split at W
     ·rename_i hc
      obtain⟨x2,rfl,x1⟩:=hc;simp at W;subst W
      have hxall:∀e:DV,e∈xs->e.cells.length=sz:=by intro e D;have:=bB.1 x1 e D;simpa using this
      have H:(q.length+m.length)*bytes<=140737488355328:=by rw[<-S,<-hly];exact x2
      have hel:∀e:DV,e∈q++m->e.cells.length=sz:=by
       intro e D;rcases bC.1 D with D|D
       ·exact I2 hfx hxall e D
       ·exact(R e D).1
      have hfit:(AV.d (.sl U (xs++ys))).fit (.d (.sl (.own ((sv.c+i)::p) sz) (q++m))):=by simp only[AV.fit,DV.fit];refine⟨_,rfl,_,_,rfl,DV.qaW hfx Z,.inr ⟨rfl,.inr ⟨by simp[c2],_,_,rfl,hel⟩⟩⟩
      have hown:(AV.d (.sl U (xs++ys))).own (.d (.sl (.own ((sv.c+i)::p) sz) (q++m)))=((sv.c+i)::p)::(DV.owns xs q++DV.owns ys m):=by simp only[AV.own,DV.own];rw[aw ⟨trivial,by simp[c2]⟩,DV.qaT S];simp[Tag.ids]
      have Y:∀a,a∈DV.owns xs q->a∈cv sx.r sv.r x:=fun a C=>by rw[ox];simp[AV.own,DV.own,C]
      have Q:∀a,a∈DV.owns ys m->a∈cv sx.r sv.r y:=hyx;have x3:∀ℓ,(sv.c+i)::p∉aI sx.r sx.B sv.r sv.B ℓ:=fun ℓ G=>(h.held.opn ℓ _ G).2.2 (Fut.self p _)
      have O:∀z,(sv.c+i)::p∉cv sx.r sv.r z:=fun z G=>by obtain⟨n,rfl,_,h8⟩:=h.qdL G;exact x3 (.reg n) h8
      have hnd:(((sv.c+i)::p)::(DV.owns xs q++DV.owns ys m)).Nodup:=by
       rw[ju,cJ];refine⟨fun G=> ?_,(h.qa8 x).sublist (by rw[ox];simp only[AV.own,DV.own];exact gV _ _),hyn,fun a C b hb D=> ?_⟩
       ·rcases bC.1 G with G|G
        ·exact O x (Y _ G)
        ·exact O y (Q _ G)
       ·subst D;exact J a (Y a C) (Q a hb)
      have hV:∃A',fC sv ((sv.c+i)::p) sz bytes (.sl g' q) (.sl gz' m)=some (.d (.sl (.own ((sv.c+i)::p) sz) (q++m)),{sv with A:=A'})/\A' ((sv.c+i)::p)=true/\
       (∀a,sv.A a=true->(a∉cv sx.r sv.r x\/a∈DV.owns xs q)->A' a=true)/\∀a,A' a=true->sv.A a=true\/(Fut p 0 a/\¬Fut p (sv.c+i+1) a):=by
       rcases htx with h8|⟨_,h8⟩
       ·exact absurd h8 (by decide)
       rcases h8 with⟨h9,h10⟩|⟨h9,a0,sz',rfl,h11⟩
       ·have hx0:q=[]:=by rw[<-List.length_eq_zero_iff];omega
        subst hx0;refine⟨Ids.add ((sv.c+i)::p) sv.A,?_,by simp[Ids.add],fun a C _=>by simp[Ids.add,C],pz p _ sv.A⟩;have hb0:(([]:al).length+m.length)*bytes<=140737488355328:=H;unfold fC;simp only;rw[aw N,P];simp only[bL,if_false];rw[aw hb0];rcases h10 with rfl|⟨a0,s0,rfl⟩<;>simp
       ·have hxne:q≠[]:=by intro D;subst D;simp at S;exact h9 (by rw[S];rfl)
        have a3:q.isEmpty=false:=by cases q<;>simp_all
        have hs:sz'=sz:=by obtain⟨e,D⟩:=nc q hxne;rw[<-h11 e D,hel e (by simp[D])]
        have a1:a0∈cv sx.r sv.r x:=by rw[ox];simp only[AV.own,DV.own];rw[aw ⟨trivial,h9⟩];simp[Tag.ids]
        obtain⟨ha0,_,_⟩:=h.qb5 a1;refine⟨Ids.add ((sv.c+i)::p) (Ids.del a0 sv.A),?_,by simp[Ids.add],fun a C I=> ?_,fun a C=>(pz p _ _ a C).imp_left fun h=>by simp[Ids.del]at h;exact h.2⟩
        ·unfold fC
         simp only;rw[aw N,P];simp only[bL,if_false];rw[aw H,a3];simp only[bL,if_false];rw[aw ⟨hs,ha0⟩]
        ·have hne2:a≠a0:=by
          rintro rfl
          rcases I with I|I
          ·exact I a1
          ·have:=h.qa8 x
           rw[ox]at this;simp only[AV.own,DV.own]at this;rw[aw ⟨trivial,h9⟩]at this;simp only[Tag.ids,EU,ju]at this;exact this.1 I
         simp[Ids.add,Ids.del,hne2,C]
      obtain⟨A',hV1,hV2,hV3,hV4⟩:=hV;refine ew (sv:=sv) (s:={sv with A:=A'}) (v:= .d (.sl (.own ((sv.c+i)::p) sz) (q++m))) (by simp only[aY,h4,hy2,hi2,h6];rw[aw ⟨hd0,by rw[hn0,S],hzl,hzc,hwl,hwc,ht9v⟩,<-M,hV1];rfl) rfl ?_;refine(h.drops _).put dst hfit (ch _) (fun hT=> ?_) (fun a C I=>hV3 a C (.inl ?_)) hV4 _
      ·rw[hown]
       refine⟨hnd,fun a C=> ?_⟩;simp only[hT,if_true];rcases bK.1 C with rfl|C
       ·refine⟨hV2,fun hF=>(h.held.fr _ hF).2 (Fut.self p _),Fut.qkT (j1 _),fun ℓ _ G=> ?_⟩
        refine x3 ℓ ?_;cases ℓ with
        |reg t=>simp only[aI,jK]at G⊢;split at G<;>first|(simp at G;done)|exact G
        |box j=>exact G
       ·rcases bC.1 C with C|C
        ·obtain⟨q1,q2,q3⟩:=h.qb5 (Y a C)
         exact⟨hV3 a q1 (.inr C),q2,fun hf=>q3 (hf.le (ch _)),fun ℓ _=>h.qcA (by simp) (Y a C) ℓ⟩
        ·obtain⟨q1,q2,q3⟩:=h.qb5 (Q a C)
         exact⟨hV3 a q1 (.inl fun G=>J a G (Q a C)),q2,fun hf=>q3 (hf.le (ch _)),fun ℓ _=>h.qcA (by simp) (Q a C) ℓ⟩
      ·intro G
       rcases I with hF|⟨ℓ,hℓ⟩
       ·exact(h.qb5 G).2.1 hF
       ·exact h.qcA (hxin []) G ℓ hℓ
     ·simp at W
   ·simp at W
  ·simp at hx
 ·simp at hx
theorem Ts{dst:a_}(h:Rel A0 T F p (sv.c+i) sx sv)(hx:bm X lin T draw L0 ⟨dst,.extract x k,gd,af⟩ sx=some sx'):eM A0 T F p V draw L0 i ⟨dst,.extract x k,gd,af⟩ sv sx':=by
 simp only[bm]at hx;split at hx
 ·rename_i vs h1
  obtain⟨v,S,rfl⟩:=ay.1 hx;obtain⟨w,Q,Y⟩:=h.get h1;simp only[AV.fit]at Y;obtain⟨us,rfl,R,h6⟩:=Y;obtain⟨u,h7,h8⟩:=AV.qce R S;refine ew (sv:=sv) (s:=sv) (v:=u) (by simp only[aY,aK,Q,h7,bH]) rfl ?_;exact h.put0 dst (AV.qcN _ _ h8) (AV.qbL _ _) (ch _) _
 ·rename_i vs h1
  obtain⟨v,S,rfl⟩:=ay.1 hx;obtain⟨w,Q,Y⟩:=h.get h1;have G:=fl h1 Q;simp only[AV.fit,DV.fit]at Y;obtain⟨_,rfl,us,rfl,R⟩:=Y;obtain⟨u,h6,h7⟩:=DV.qce R S;have N:(AV.d v).fit (.d u):=by simp only[AV.fit];exact⟨_,rfl,h7⟩
  refine ew (sv:=sv) (s:=sv) (v:= .d u) (by simp only[aY,aK,Q,h6,bH]) rfl ?_;have hk:k<vs.length:=(aU.1 S).1;have x3:k<us.length:=(aU.1 h6).1;have g:(v.own u).Sublist (DV.owns vs us):=DV.qcB S h6;simp only[AV.own,DV.own]at G;cases hT:cN T dst with
  |false=>
   have key:Rel A0 T F p (sv.c+i+1) (be T sx dst (.d v)) {(sv.put dst (.d u))with c:=sv.c}:=h.put dst N (ch _) (fun h'=>by rw[hT]at h';simp at h') (fun a C _=>C) (fun _ hi=> .inl hi) _;cases x with
   |c q=>exact key
   |t n=>simp only[Bool.false_and,bL,if_false];exact key
  |true=>
   have none:(v.own u=[])->Rel A0 T F p (sv.c+i+1) (be T sx dst (.d v)) {(sv.put dst (.d u))with c:=sv.c}:=fun h0=>h.put0 dst N (by simpa[AV.own]using h0) (ch _) _
   cases x with
   |c q=>refine none ?_;rw[FN]at G;rw[<-G]at g;exact pm.1 g
   |t n=>
    cases hn:T.contains n with
    |false=>simp only[hn,Bool.and_false,bL,if_false];refine none ?_;rw[pQ,h.nl n hn]at G;rw[<-G]at g;exact pm.1 g
    |true=>
     simp only[hn,Ao,if_true];rw[pQ]at G;have H:us.set k u=us:=by
      apply jG;intro j
      by_cases W:k=j
      ·subst W;rw[iz,h6];simp
      ·rw[dK W]
     have x1:=wJ R (i:=k) (DV.qcN _ _ h7);have P:=ny R hk v.clr u;have O:=ny R hk v u;have K:vs.set k v=vs:=by
      apply jG;intro j
      by_cases W:k=j
      ·subst W;rw[iz,S];simp
      ·rw[dK W]
     rw[H]at x1 P;rw[H,K]at O;rw[DV.qbL,dB]at P;have Z:br ((n,AV.d (.tup (vs.set k v.clr)))::sx.r) sv.r n=DV.owns (vs.take k) (us.take k)++DV.owns (vs.drop (k+1)) (us.drop (k+1)):=by have x2:lk sv.r n=some (.d (.tup us)):=Q;unfold br;rw[x2];simp only[lk,if_true,AV.own,DV.own];exact P
     have I:∀t,t≠n->br ((n,AV.d (.tup (vs.set k v.clr)))::sx.r) sv.r t=br sx.r sv.r t:=fun t e=>by unfold br;simp only[lk];rw[au e]
     have M:(br ((n,AV.d (.tup (vs.set k v.clr)))::sx.r) sv.r n).Sublist (br sx.r sv.r n):=by rw[Z,G,O,cr];exact ig (co _) (gV _ _)
     have hR:Rel A0 T F p (sv.c+i) ⟨(n,.d (.tup (vs.set k v.clr)))::sx.r,sx.B⟩ sv:=by
      refine⟨fun t y hy=> ?_,h.boxes,h.held.shrink (fun ℓ=> ?_) (fun a C _=>C) (fun _ hf=>hf),fun t e=> ?_,fun t e=> ?_,h.am⟩
      ·simp only[lk]at hy
       split at hy
       ·rename_i he;subst he
        simp at hy;subst hy
        exact⟨_,Q,by simp only[AV.fit,DV.fit];exact⟨_,rfl,_,rfl,x1⟩⟩
       ·exact h.regs t y hy
      ·cases ℓ with
       |reg t=>
        simp only[aI]
        by_cases e:t=n
        ·subst e;exact M
        ·rw[I t e];exact co _
       |box j=>exact co _
      ·have:t≠n:=by rintro rfl;rw[hn]at e;simp at e
       rw[I t this];exact h.nl t e
      ·simp only[lk]at e
       split at e
       ·simp at e
       ·exact h.no t e
     have m:=h.held.nodup (.reg n);simp only[aI]at m;rw[G,O,cr]at m;refine hR.put dst N (ch _) (fun _=>⟨?_,fun a C=> ?_⟩) (fun a C _=>C) (fun _ hi=> .inl hi) _
     ·exact(cJ.1 (cJ.1 m).2.1).1
     ·simp only[AV.own]at C
      have J:a∈aI sx.r sx.B sv.r sv.B (.reg n):=by simp only[aI];rw[G];exact g.subset C
      obtain⟨q1,q2,q3⟩:=h.held.opn _ a J;refine⟨q1,q2,fun hf=>q3 (hf.le (ch _)),fun ℓ _ D=> ?_⟩;cases ℓ with
      |reg t=>
       simp only[aI]at D
       by_cases e:t=n
       ·subst e
        rw[Z]at D;rw[cJ]at m;obtain⟨_,n2,n3⟩:=m;rw[cJ]at n2;rcases bC.1 D with D|D
        ·exact n3 a D a (by simp[C]) rfl
        ·exact n2.2.2 a C a D rfl
       ·rw[I t e]at D
        have:=h.held.apart (.reg n) (.reg t) a J D;simp at this;exact e this.symm
      |box j=>have:=h.held.apart (.reg n) (.box j) a J D;simp at this
 ·simp at hx
theorem J7{o:VOper}(g:o.op.gen=true)(h:Rel A0 T F p (sv.c+i) sx sv)(u:(aK sx.r o.op).map (fun v=>be T sx o.dst v.clr)=some sx')(e:aY V p draw L0 i o sv=(aK sv.r o.op).map fun v=>sv.put o.dst v):eM A0 T F p V draw L0 i o sv sx':=by obtain⟨a,w,rfl⟩:=ay.1 u;obtain⟨v,m,q⟩:=TM h.er g w;refine ew (sv:=sv) (s:=sv) (v:=v) (by rw[e,m];rfl) rfl ?_;exact h.put0 o.dst q (AV.qbL _ _) (ch _) _
theorem Pt{dst:a_}{arr:a_}(h:Rel A0 T F p (sv.c+i) sx sv)(C:bm X lin T draw L0 ⟨dst,.indexAddr sz arr x y,gd,af⟩ sx=some sx'):eM A0 T F p V draw L0 i ⟨dst,.indexAddr sz arr x y,gd,af⟩ sv sx':=by
 have gen:(aK sx.r (.indexAddr sz arr x y)).map (fun v=>be T sx dst v.clr)=some sx'->eM A0 T F p V draw L0 i ⟨dst,.indexAddr sz arr x y,gd,af⟩ sv sx':=fun C=>J7 (o:=⟨dst,.indexAddr sz arr x y,gd,af⟩) (by rfl) h C (by rfl)
 simp only[bm]at C;unfold sU at C;split at C
 ·rename_i n hT
  split at C
  ·rename_i g xs kd k h1 h2
   split at C
   ·rename_i a3
    obtain⟨e,h4,h5⟩:=az.1 C;split at h5
    ·rename_i Z
     simp only[aL]at h5;subst h5;obtain⟨w,h3,W⟩:=h.get h1;have R:=h.getInt h2;have ox:=fl h1 h3;simp only[AV.fit,DV.fit]at W;obtain⟨_,rfl,g',ys,rfl,q,hg⟩:=W;obtain⟨D,h6,h7⟩:=DV.qce q h4;have a2:D.cells.length=sz:=by rw[DV.qbH h7];exact Z.1
     have b1:=DV.qa5 h7;have x1:(AV.ep e.cells).fit (.ep D.cells):=by simp only[AV.fit];exact⟨_,rfl,b1⟩
     have Q:DV.owns e.cells D.cells=e.own D:=DV.qdy h7;refine ew (sv:=sv) (s:=sv) (v:= .ep D.cells) (by simp only[aY,aK,h3,R,aw a3,h6,a9,aw (And.intro a2 Z.2),bH]) rfl ?_;have hk:k.toNat<xs.length:=(aU.1 h4).1;have I:(e.own D).Sublist (DV.owns xs ys):=DV.qcB h4 h6;simp only[AV.own,DV.own]at ox;cases hn:T.contains n with
     |false=>simp only[bL,if_false];refine h.put0 dst x1 ?_ (ch _) _;rw[pQ,h.nl n hn]at ox;have:DV.owns xs ys=[]:=(GE.1 ox.symm).2;rw[this]at I;simp only[AV.own];rw[Q];exact pm.1 I
     |true=>
      simp only[if_true];rw[pQ]at ox;have J:ys.set k.toNat D=ys:=by
       apply jG;intro j
       by_cases Y:k.toNat=j
       ·subst Y;rw[iz,h6];simp
       ·rw[dK Y]
      have a1:=wJ q (i:=k.toNat) (DV.qcN _ _ h7);have S:=ny q hk e.clr D;have x3:=ny q hk e D;have O:xs.set k.toNat e=xs:=by
       apply jG;intro j
       by_cases Y:k.toNat=j
       ·subst Y;rw[iz,h4];simp
       ·rw[dK Y]
      rw[J]at a1 S;rw[J,O]at x3;rw[DV.qbL,dB]at S;have x2:br ((n,AV.d (.sl g (xs.set k.toNat e.clr)))::sx.r) sv.r n=(if g=U/\xs.length≠0 then g'.ids else [])++(DV.owns (xs.take k.toNat) (ys.take k.toNat)++DV.owns (xs.drop (k.toNat+1)) (ys.drop (k.toNat+1))):=by have b2:lk sv.r n=some (.d (.sl g' ys)):=h3;unfold br;rw[b2];simp only[lk,if_true,AV.own,DV.own,lm];rw[S]
      have M:∀t,t≠n->br ((n,AV.d (.sl g (xs.set k.toNat e.clr)))::sx.r) sv.r t=br sx.r sv.r t:=fun t m=>by unfold br;simp only[lk];rw[au m]
      have K:br sx.r sv.r n=(if g=U/\xs.length≠0 then g'.ids else [])++(DV.owns (xs.take k.toNat) (ys.take k.toNat)++(e.own D++DV.owns (xs.drop (k.toNat+1)) (ys.drop (k.toNat+1)))):=by rw[ox,x3,cr]
      have P:(br ((n,AV.d (.sl g (xs.set k.toNat e.clr)))::sx.r) sv.r n).Sublist (br sx.r sv.r n):=by rw[x2,K];exact ig (co _) (ig (co _) (gV _ _))
      have hR:Rel A0 T F p (sv.c+i) ⟨(n,.d (.sl g (xs.set k.toNat e.clr)))::sx.r,sx.B⟩ sv:=by
       refine⟨fun t y R=> ?_,h.boxes,h.held.shrink (fun ℓ=> ?_) (fun a G _=>G) (fun _ W=>W),fun t m=> ?_,fun t m=> ?_,h.am⟩
       ·simp only[lk]at R
        split at R
        ·rename_i he;subst he
         simp at R;subst R
         exact⟨_,h3,by simp only[AV.fit,DV.fit];exact⟨_,rfl,g',ys,rfl,a1,by rw[lm];exact hg⟩⟩
        ·exact h.regs t y R
       ·cases ℓ with
        |reg t=>
         simp only[aI]
         by_cases m:t=n
         ·subst m;exact P
         ·rw[M t m];exact co _
        |box j=>exact co _
       ·have:t≠n:=by rintro rfl;rw[hn]at m;simp at m
        rw[M t this];exact h.nl t m
       ·simp only[lk]at m
        split at m
        ·simp at m
        ·exact h.no t m
      have H:=h.held.nodup (.reg n);simp only[aI]at H;rw[K]at H;rw[cJ]at H;obtain⟨m1,m2,m3⟩:=H;rw[cJ]at m2;obtain⟨p1,p2,p3⟩:=m2;rw[cJ]at p2;refine hR.put dst x1 (ch _) (fun _=>⟨?_,fun a G=> ?_⟩) (fun a G _=>G) (fun _ hi=> .inl hi) _
      ·simp only[AV.own];rw[Q];exact p2.1
      ·simp only[AV.own]at G
       rw[Q]at G;have N:a∈aI sx.r sx.B sv.r sv.B (.reg n):=by simp only[aI];rw[K];simp[G]
       obtain⟨q1,q2,q3⟩:=h.held.opn _ a N;refine⟨q1,q2,fun W=>q3 (W.le (ch _)),fun ℓ _ u=> ?_⟩;cases ℓ with
       |reg t=>
        simp only[aI]at u
        by_cases m:t=n
        ·subst m
         rw[x2]at u;rcases bC.1 u with u|u
         ·exact m3 a u a (by simp[G]) rfl
         ·rcases bC.1 u with u|u
          ·exact p3 a u a (by simp[G]) rfl
          ·exact p2.2.2 a G a u rfl
        ·rw[M t m]at u
         have:=h.held.apart (.reg n) (.reg t) a N u;simp at this;exact m this.symm
       |box j=>have:=h.held.apart (.reg n) (.box j) a N u;simp at this
    ·simp at h5
   ·simp at C
  ·simp at C
 ·exact gen C
end
theorem v8(agg:Bool)(sz:Nat):∀(n:Nat) (cs ds xs:al),DV.fits cs ds->chunks agg sz n cs=some xs->∃ys,chunks agg sz n ds=some ys/\DV.fits xs ys/\(∀e:DV,e∈ys->e.cells.length=sz)/\(DV.owns xs ys).Sublist (DV.owns cs ds)/\xs.length=n
 |0,cs,ds,xs,w,h=>by simp[chunks]at h;subst h;exact⟨[],rfl,by simp[DV.fits],by simp,by simp[DV.owns],rfl⟩
 |n+1,cs,ds,xs,w,h=>by
  simp only[chunks]at h;obtain⟨v,m,D⟩:=az.1 h;split at D
  ·rename_i hc
   obtain⟨H,I,rfl⟩:=ay.1 D;obtain⟨u,q,r⟩:=KV w m;obtain⟨ys,O,K,M,J,C⟩:=v8 agg sz n _ _ H (DV.qbC w sz) I;refine⟨u::ys,?_,by simp only[DV.fits];exact⟨_,_,rfl,r,K⟩,?_,?_,by simp[C]⟩
   ·simp only[chunks,q,a9]
    rw[aw ⟨by rw[DV.qbH r];exact hc.1,by rw[DV.qbB (DV.qa5 r)];exact hc.2⟩,O];rfl
   ·intro e G
    rcases bK.1 G with rfl|G
    ·rw[DV.qbH r];exact hc.1
    ·exact M e G
   ·simp only[DV.owns]
    rw[DV.qbX (DV.qao w) sz];refine ig ?_ J;unfold cut at m q;cases agg with
    |true=>
     simp only[if_true]at m q;split at m<;>simp at m
     split at q<;>simp at q
     subst m;subst q
     simp only[DV.own];exact co _
    |false=>
     simp only[bL,if_false]at m q;rcases kY sz with N|g
     ·have:v.cells=[]:=jX.1 (by rw[hc.1,N])
      rw[<-DV.qdy r,this];simp[DV.owns]
     ·exact DV.qcB (i:=0) (by rw[eY];simp[g,m]) (by rw[eY];simp[g,q])
  ·simp at D
theorem wA{f g:AV->cZ}(e:∀(x v:AV) (d:DV),x.fit v->f x=some d->∃q,g v=some q/\d.fit q):∀(xs vs:aA) (ds:al),AV.fits xs vs->cQ f xs=some ds->∃r,cQ g vs=some r/\DV.fits ds r
 | [],vs,ds,m,h=>by
  simp only[AV.fits]at m;subst m
  simp only[cQ,aL]at h;subst h
  exact⟨[],rfl,by simp[DV.fits]⟩
 |x::xs,vs,ds,m,h=>by simp only[AV.fits]at m;obtain⟨v,vs,rfl,D,w⟩:=m;simp only[cQ]at h;obtain⟨d,J,I⟩:=az.1 h;obtain⟨u,H,rfl⟩:=ay.1 I;obtain⟨q,M,C⟩:=e x v d D J;obtain⟨r,K,G⟩:=wA e xs vs u w H;exact⟨q::r,by simp only[cQ,M,K,a9,bH],by simp only[DV.fits];exact⟨_,_,rfl,C,G⟩⟩
theorem yz{B:ar}(P:qbe B Bv):∀(n:Nat) (x v:AV) (d:DV),x.fit v->x.frzC B n=some d->∃g,v.frzC Bv n=some g/\d.fit g:=by
 have base:∀n (x:DV) (v:AV) (d:DV),(AV.d x).fit v->(AV.d x).frzC B n=some d->∃g,v.frzC Bv n=some g/\d.fit g:=by intro n x v d e h;simp only[AV.fit]at e;obtain⟨y,rfl,q⟩:=e;cases n<;>(simp only[AV.frzC,aL]at h;subst h;exact⟨y,by simp only[AV.frzC],q⟩)
 intro n
 induction n with
 |zero=>
  intro x v d e h;cases x with
  |d x=>exact base 0 x v d e h
  |_=>simp[AV.frzC]at h
 |succ n M=>
  intro x v d e h;cases x with
  |d x=>exact base _ x v d e h
  |tsl ag i sz m=>
   simp only[AV.fit]at e;subst e
   simp only[AV.frzC]at h⊢
   obtain⟨cs,q,N⟩:=az.1 h;obtain⟨ds,C,r⟩:=az.1 N;obtain⟨u,J,Q⟩:=P.get q;obtain⟨K,H,w⟩:=wA M cs u ds Q C;rw[J,a9,H,a9,<-DV.qao w];split at r
   ·rename_i O
    rw[aw O];obtain⟨xs,G,rfl⟩:=ay.1 r;obtain⟨ys,D,I,_⟩:=v8 ag sz m ds K xs w G;exact⟨_,by rw[D];rfl,by simp only[DV.fit];exact⟨_,_,rfl,I,.inl rfl⟩⟩
   ·simp at r
  |_=>simp[AV.frzC]at h
theorem WW{B:ar}(g:qbe B Bv)(x v:AV)(d:DV)(e:x.fit v)(h:x.frz B=some d):∃C,v.frz Bv=some C/\d.fit C:=by
 cases x with
 |ag t cs=>
  cases t with
  |true=>simp only[AV.frz]at h;cases hB:B.length<;>simp[hB,AV.frzC]at h
  |false=>
   simp only[AV.fit]at e;obtain⟨r,rfl,D,_⟩:=e;simp only[AV.frz]at h⊢
   obtain⟨ds,u,q⟩:=az.1 h;rw[g.1]at u;obtain⟨H,G,w⟩:=wA (yz g _) cs r ds D u;rw[G,a9,DV.qbB w];split at q
   ·rename_i hc
    rw[aw hc];simp only[aL]at q;subst q
    exact⟨_,rfl,by simp only[DV.fit];exact⟨_,rfl,w⟩⟩
   ·simp at q
 |d x=>have:=yz g B.length _ v d e (by simpa only[AV.frz]using h);rw[g.1]at this;simp only[AV.fit]at e;obtain⟨y,rfl,_⟩:=e;simpa only[AV.frz]using this
 |tsl ag i sz m=>
  have:=yz g B.length _ v d e (by simpa only[AV.frz]using h);rw[g.1]at this;simp only[AV.fit]at e;subst e
  simpa only[AV.frz]using this
 |_=>simp only[AV.frz]at h;cases hB:B.length<;>simp[hB,AV.frzC]at h
def BF:ar->ar->Prop
 | [],ys=>ys=[]
 |b::bs,ys=>∃cs ds vs,b=some cs/\ys=some ds::vs/\AV.fits cs ds/\AV.owns cs ds=[]/\BF bs vs
theorem BF.append:∀{a c b d:ar},BF a c->BF b d->BF (a++b) (c++d)
 | [],c,b,d,h,h'=>by simp only[BF]at h;subst h;exact h'
 |x::xs,c,b,d,h,h'=>by simp only[BF]at h;obtain⟨cs,ds,vs,rfl,rfl,m,e,g⟩:=h;simp only[dk,BF];exact⟨_,_,_,rfl,rfl,m,e,BF.append g h'⟩
theorem BF.len:∀{a c:ar},BF a c->a.length=c.length
 | [],c,h=>by simp only[BF]at h;subst h;rfl
 |x::xs,c,h=>by simp only[BF]at h;obtain⟨cs,ds,vs,rfl,rfl,_,_,e⟩:=h;simp[e.len]
theorem BF.get:∀{a c:ar},BF a c->∀i:Nat,i<a.length->∃cs ds,a[i]?=some (some cs)/\c[i]?=some (some ds)/\AV.fits cs ds/\AV.owns cs ds=[]
 | [],c,h,i,hi=>by simp at hi
 |x::xs,c,h,i,hi=>by
  simp only[BF]at h;obtain⟨cs,ds,vs,rfl,rfl,m,e,g⟩:=h;cases i with
  |zero=>exact⟨cs,ds,rfl,rfl,m,e⟩
  |succ i=>simpa using g.get i (by simpa using hi)
theorem BF.one(e:AV.fits cs ds)(g:AV.owns cs ds=[]):BF [some cs] [some ds]:=by simp only[BF];exact⟨_,_,_,rfl,rfl,e,g,rfl⟩
theorem T2{x v:DV}(h:x.fit v):b_ v=b_ x:=by
 cases x<;>simp only[DV.fit]at h
 case agg cs=>obtain⟨ds,rfl,e⟩:=h;rfl
 case sl g xs=>obtain⟨g',ys,rfl,e,m⟩:=h;rfl
 case tup cs=>obtain⟨ds,rfl,e⟩:=h;rfl
 all_goals subst h;rfl
mutual
theorem qA0:∀(x v:DV),x.fit v->x.allU=true->∃l,v.names=some l/\l.Perm (x.own v)
 | .int k n,v,h,_=>by simp only[DV.fit]at h;subst h;exact⟨[],rfl,by simp[DV.own]⟩
 | .bool k,v,h,_=>by simp only[DV.fit]at h;subst h;exact⟨[],rfl,by simp[DV.own]⟩
 | .str k,v,h,_=>by simp only[DV.fit]at h;subst h;exact⟨[],rfl,by simp[DV.own]⟩
 | .tup vs,v,h,e=>by simp[DV.allU]at e
 | .agg cs,v,h,e=>by simp only[DV.fit]at h;obtain⟨ds,rfl,m⟩:=h;simp only[DV.allU]at e;simp only[DV.names,DV.own];exact AW cs ds m e
 | .sl g [],v,h,_=>by simp only[DV.fit,DV.fits]at h;obtain⟨g',ys,rfl,rfl,_⟩:=h;exact⟨[],by cases g'<;>rfl,by simp[DV.own,DV.owns]⟩
 | .sl g (x::xs),v,h,e=>by
  simp only[DV.fit]at h;obtain⟨g',ys,rfl,m,u⟩:=h;simp only[DV.allU,aQ,bu]at e;obtain⟨rfl,e⟩:=e;obtain⟨l,C,w⟩:=AW (x::xs) ys m e;rcases u with r|⟨_,r⟩
  ·exact absurd r (by decide)
  rcases r with⟨q,_⟩|⟨q,a,sz,rfl,_⟩
  ·simp at q
  ·simp only[DV.fits]at m
   obtain⟨y,D,rfl,_,_⟩:=m;refine⟨l++[a],by simp only[DV.names,C,bH],?_⟩;simp only[DV.own];rw[aw ⟨trivial,q⟩];exact sJ.trans (List.Perm.append (jW _) w)
theorem AW:∀(xs vs:al),DV.fits xs vs->DV.allUs xs=true->∃l,DV.namess vs=some l/\l.Perm (DV.owns xs vs)
 | [],vs,h,_=>by simp only[DV.fits]at h;subst h;exact⟨[],rfl,by simp[DV.owns]⟩
 |x::xs,vs,h,e=>by simp only[DV.fits]at h;obtain⟨v,vs,rfl,w,m⟩:=h;simp only[DV.allUs,aQ]at e;obtain⟨C,D,q⟩:=qA0 x v w e.1;obtain⟨r,g,u⟩:=AW xs vs m e.2;exact⟨C++r,by simp only[DV.namess,D,g,a9,bH],by simp only[DV.owns];exact List.Perm.append q u⟩
end
section
variable {A0:Ids} {T:ae} {F:Id->Prop} {p:Id} {sx sx':XS} {sv:St} {X:cq} {V:ct} {lin:Nat->ae} {draw:Bool} {L0 i:Nat}
theorem Rel.app(h:Rel A0 T F p k sx sv){Bs Bvs:ar}(u:BF Bs Bvs):Rel A0 T F p k ⟨sx.r,sx.B++Bs⟩ {sv with B:=sv.B++Bvs}:=by
 have w:=u.len;have e:=h.boxes.1;have m:qbe (sx.B++Bs) (sv.B++Bvs):=by
  refine⟨by simp[e,w],fun i=> ?_⟩
  by_cases hi:i<sx.B.length
  ·rw[cf hi,cf (by rw[<-e];exact hi)];exact h.boxes.2 i
  ·rw[cF (by omega),cF (by rw[<-e];omega),e]
   rw[e]at hi
   by_cases g:i-sv.B.length<Bs.length
   ·obtain⟨cs,ds,C,q,D,G⟩:=u.get _ g
    rw[C,q];exact⟨by simp,fun J hc=>⟨ds,rfl,by simp at hc;subst hc;exact D⟩⟩
   ·rw[gU (by omega)];simp
 refine⟨h.regs,m,h.held.shrink (fun ℓ=> ?_) (fun a I _=>I) (fun _ H=>H),h.nl,h.no,h.am⟩;cases ℓ with
 |reg t=>exact co _
 |box j=>
  simp only[aI,bp,aT]
  by_cases hi:j<sx.B.length
  ·rw[cf hi,cf (by rw[<-e];exact hi)];exact co _
  ·rw[cF (by omega),cF (by rw[<-e];omega),e]
   rw[e]at hi
   by_cases g:j-sv.B.length<Bs.length
   ·obtain⟨cs,ds,C,q,D,G⟩:=u.get _ g
    rw[C,q];simp only[G];exact kE _
   ·rw[gU (by omega:Bs.length<=j-sv.B.length)]
    exact kE _
theorem fz(v u:AV)(t:Nat):br [(0,v)] [(0,u)] t=if t=0 then v.own u else []:=by unfold br;by_cases e:t=0<;>simp[lk,e]
end
variable{args:cm}
section
variable {A0:Ids} {T:ae} {F:Id->Prop} {p:Id} {sx sx':XS} {sv:St} {X:cq} {V:ct} {lin:Nat->ae} {draw:Bool} {L0 i:Nat}
theorem Rel.getR(h:Rel A0 T F p k sx sv){c b:Nat}(g:lk sx.r c=some (.ptr b o)):lk sv.r c=some (.ptr b o):=by obtain⟨v,m,e⟩:=h.regs c _ g;simp only[AV.fit]at e;subst e;exact m
theorem qO3{dst:a_}{c:Nat}(h:Rel A0 T F p (sv.c+i) sx sv)(e:bm X lin T draw L0 ⟨dst,.loadS agg sz x c,gd,af⟩ sx=some sx'):eM A0 T F p V draw L0 i ⟨dst,.loadS agg sz x c,gd,af⟩ sv sx':=by
 simp only[bm]at e;split at e
 ·rename_i b off D G m g
  split at e
  ·simp at e
  ·rename_i w
   obtain⟨v,C,rfl⟩:=ay.1 e;obtain⟨u,r,q⟩:=h.takeBox dst C (ch _) sv.c;exact ew (sv:=sv) (s:=sv) (v:=u) (by simp only[aY,h.getPtr m,h.getR g,r,bH];rw[au w]) rfl q
 ·simp at e
theorem Rel.setClr(h:Rel A0 T F p k sx sv)(b:Nat)(e:AV.fits cs ds):Rel A0 T F p k ⟨sx.r,sx.B.set b (some (AV.clrs cs))⟩ {sv with B:=sv.B.set b (some ds)}:=by
 obtain⟨f1,f2⟩:=AV.qbm _ _ e;refine⟨h.regs,h.boxes.set b f1,h.held.shrink (fun ℓ=> ?_) (fun a q _=>q) (fun _ e=>e),h.nl,h.no,h.am⟩;cases ℓ with
 |reg t=>exact co _
 |box j=>
  simp only[aI]
  by_cases g:b=j
  ·subst g
   by_cases m:b<sx.B.length
   ·rw[Bg m (by rw[<-h.boxes.1];exact m),f2];exact kE _
   ·unfold bp aT
    rw[gU (by rw[lm];omega)];exact kE _
  ·rw[xe g];exact co _
theorem qO4(R:hZ X V lin){dst:a_}{c:Nat}{f:VX}(h:Rel A0 T F p (sv.c+i) sx sv)(m:bm X lin T draw L0 ⟨dst,.callS c f args,gd,af⟩ sx=some sx'):eM A0 T F p V draw L0 i ⟨dst,.callS c f args,gd,af⟩ sv sx':=by
 simp only[bm]at m;split at m
 ·rename_i k b off vs b' o' h1 h2 x2
  obtain⟨fv,h3,h4⟩:=h.get h1;simp only[AV.fit]at h4;obtain⟨x3,rfl,q,hco⟩:=h4;simp only[AV.fits]at q;subst q
  obtain⟨vs',h5,w,hvl,hvo⟩:=Di h h2;simp only[AV.fits]at w;obtain⟨v0,D,rfl,Z,w⟩:=w;simp only[AV.fit]at Z;subst Z
  split at m
  ·simp at m
  rename_i a1;obtain⟨ds,d1,m⟩:=az.1 m;obtain⟨cs,d2,m⟩:=az.1 m;obtain⟨es,d3,m⟩:=az.1 m;split at m
  ·rename_i v K I
   obtain⟨es',d4,rfl⟩:=ay.1 m;obtain⟨dsv,w1,_,_⟩:=kr d1 w;obtain⟨r,w2,q⟩:=h.boxes.get d2;obtain⟨esv,w3,_,_⟩:=kr d3 q;have J:AV.fits (.ptr 0 off::c8 [] 0 vs) (.ptr 0 off::D):=by simp only[AV.fits];exact⟨_,_,rfl,by simp only[AV.fit],Gx (LP:=[]) w 0⟩
   have O:∀j,br (bo 0 (.ptr 0 off::c8 [] 0 vs)) (bo 0 (.ptr 0 off::D)) j=[]:=by
    intro j;rw[nh];cases j with
    |zero=>simp[AV.own]
    |succ j=>
     simp only[mP,rD];cases vs[j]? with
     |none=>rfl
     |some a=>cases D[j]? with
      |none=>rfl
      |some b=>simp[AV.qbL]
   have b2:∀j,bp [some (AV.clrs cs)] [some r] j=[]:=by
    intro j;cases j with
    |zero=>simp only[bp,aT,eG];exact(AV.qbm _ _ q).2
    |succ j=>simp[bp,aT]
   have C:∀ℓ,aI (bo 0 (.ptr 0 off::c8 [] 0 vs)) [some (AV.clrs cs)] (bo 0 (.ptr 0 off::D)) [some r] ℓ=[]:=by
    intro ℓ;cases ℓ with
    |reg t=>exact O t
    |box j=>exact b2 j
   have a2:qbe [some (AV.clrs cs)] [some r]:=by
    refine⟨rfl,fun j=> ?_⟩;cases j with
    |zero=>exact⟨by simp,fun cs2 hc=>⟨r,rfl,by simp at hc;subst hc;exact(AV.qbm _ _ q).1⟩⟩
    |succ j=>simp
   obtain⟨u,P,A1,hV,Y,N,hh,S⟩:=R k _ _ _ _ I ((sv.c+i)::p) (.ptr 0 off::D) [some r] Ids.none (fun _=>False) J a2
    ⟨fun ℓ=>by rw[C];simp,fun ℓ ℓ' a e=>by rw[C]at e;simp at e,fun ℓ a e=>by rw[C]at e;simp at e,fun a e=>by simp at e⟩ (fun j _=>O j) (fun a e=>by simp[Ids.none]at e)
   simp only[AV.fit]at Y;obtain⟨y,rfl,a3⟩:=Y;obtain⟨g,rfl,G⟩:∃g,P=[some g]/\AV.fits K g:=by
    obtain⟨l1,l2⟩:=N
    match P,l1,l2 with
    | [b1],_,l2=>obtain⟨c2,q1,M⟩:=(l2 0).2 K rfl;simp only[eG,aL]at q1;exact⟨c2,by rw[q1],M⟩
   obtain⟨esv',w4,_,_⟩:=kr d4 G;have Q:∀a,a∈(AV.d v).own (.d y)->A1 a=true/\Fut ((sv.c+i)::p) 0 a:=by
    intro a e;have W:a∈aI [(0,AV.d v)] [some K] [(0,.d y)] [some g] (.reg 0):=by simp only[aI,fz];simpa using e
    refine⟨(hh.opn _ a W).1,?_⟩;rcases S a (hh.opn _ a W).1 with H|H
    ·simp[Ids.none]at H
    ·exact H
   have x1:((AV.d v).own (.d y)).Nodup:=by have:=hh.nodup (.reg 0);simp only[aI,fz]at this;simpa using this
   have hs:=h.setClr b G;refine ew (sv:=sv) (s:={sv with B:=sv.B.set b (some g),A:=Ids.or A1 sv.A}) (v:= .d y) (by simp only[aY,h3,h5,h.getR x2,au a1,w1,w2,w3,a9,hV,w4,bH]) rfl ?_;have:=hs.put dst (a:= .d v) (v:= .d y) (A':=Ids.or A1 sv.A) (k':=sv.c+i+1) (by simp only[AV.fit];exact⟨_,rfl,a3⟩) (ch _) (fun _=>⟨x1,fun a e=> ?_⟩) (fun a e _=>by simp only at e;simp[Ids.or,e]) (fun a e=>by
    simp only[Ids.or,cI]at e;rcases e with e|e
    ·rcases S a e with H|H
     ·simp[Ids.none]at H
     ·exact .inr ⟨H.sub.le (db _),H.qiX (j1 _)⟩
    ·exact .inl e) sv.c
   ·exact this
   ·obtain⟨q1,M⟩:=Q a e
    exact⟨by simp[Ids.or,q1],fun hF=>(h.held.fr a hF).2 M.sub,M.qiX (j1 _),fun ℓ _ hm=>(hs.held.opn ℓ a hm).2.2 M.sub⟩
  ·simp at m
 ·simp at m
end
variable{live:ae}{na:Nat}
section
variable {A0:Ids} {T:ae} {F:Id->Prop} {p:Id} {sx sx':XS} {sv:St} {X:cq} {V:ct} {lin:Nat->ae} {draw:Bool} {L0 i:Nat}
theorem WQ(a1:hZ X V lin){dst:a_}{iso:Bool}{f:VX}(h:Rel A0 T F p (sv.c+i) sx sv)(C:bm X lin T draw L0 ⟨dst,.call iso f args,gd,af⟩ sx=some sx'):eM A0 T F p V draw L0 i ⟨dst,.call iso f args,gd,af⟩ sv sx':=by
 simp only[bm]at C;split at C
 ·rename_i k caps vs h1 h2
  obtain⟨fv,h3,h4⟩:=h.get h1;simp only[AV.fit]at h4;obtain⟨m,rfl,hcf,hco⟩:=h4;obtain⟨q,h5,S,hvl,hvo⟩:=Di h h2;cases iso with
  |true=>
   simp only[if_true]at C;split at C
   ·rename_i ds hds
    split at C
    ·rename_i v B G
     simp at C;subst C
     simp only[AV.fits]at hcf;subst hcf
     have H:=Gx (LP:=[]) S 0;have hre:∀j,br (bo 0 (c8 [] 0 vs)) (bo 0 q) j=[]:=by
      intro j;rw[nh,rD];cases vs[j]? with
      |none=>rfl
      |some a=>cases q[j]? with
       |none=>rfl
       |some b=>simp[AV.qbL]
     have W:∀ℓ,aI (bo 0 (c8 [] 0 vs)) [] (bo 0 q) [] ℓ=[]:=by
      intro ℓ;cases ℓ with
      |reg t=>exact hre t
      |box j=>simp[aI,bp,aT]
     obtain⟨u,R,A1,hV,x3,_,M,x2⟩:=a1 k _ _ _ _ G ((sv.c+i)::p) q [] Ids.none (fun _=>False) H ⟨rfl,by simp⟩
      ⟨fun ℓ=>by rw[W];simp,fun ℓ ℓ' a e=>by rw[W]at e;simp at e,fun ℓ a e=>by rw[W]at e;simp at e,fun a e=>by simp at e⟩ (fun j _=>hre j) (fun a e=>by simp[Ids.none]at e)
     simp only[AV.fit]at x3;obtain⟨y,rfl,hfy⟩:=x3;obtain⟨es,hes,_,_⟩:=kr hds S;have hown:∀a,a∈(AV.d v).own (.d y)->A1 a=true/\Fut ((sv.c+i)::p) 0 a:=by
      intro a e;have g:a∈aI [(0,AV.d v)] B [(0,.d y)] R (.reg 0):=by simp only[aI,fz];simpa using e
      refine⟨(M.opn _ a g).1,?_⟩;rcases x2 a (M.opn _ a g).1 with D|D
      ·simp[Ids.none]at D
      ·exact D
     refine ew (sv:=sv) (s:={sv with A:=Ids.or A1 sv.A}) (v:= .d y) (by simp only[aY,h3,h5,if_true,hes,hV]) rfl ?_;refine h.put dst (by simp only[AV.fit];exact⟨_,rfl,hfy⟩) (ch _) (fun _=>⟨?_,fun a e=> ?_⟩) (fun a e _=>by simp[Ids.or,e]) (fun a e=>by
      simp only[Ids.or,cI]at e;rcases e with e|e
      ·rcases x2 a e with D|D
       ·simp[Ids.none]at D
       ·exact .inr ⟨D.sub.le (db _),D.qiX (j1 _)⟩
      ·exact .inl e) _
     ·have:=M.nodup (.reg 0)
      simp only[aI,fz]at this;simpa using this
     ·obtain⟨N,I⟩:=hown a e
      exact⟨by simp[Ids.or,N],fun Q=>(h.held.fr a Q).2 I.sub,I.qiX (j1 _),fun ℓ _ hm=>(h.held.opn ℓ a hm).2.2 I.sub⟩
    ·simp at C
   ·simp at C
  |false=>
   simp only[bL,if_false]at C;split at C
   ·rename_i a2
    split at C
    ·rename_i v B G
     simp at C;subst C
     have H:=AV.qaW (Gx (LP:=lin k) S 0) hcf;have O:=h.drops (dV (lin k) 0 args);have Z:(c8 (lin k) 0 vs).length=q.length:=by rw[EG];exact AV.qao S
     have Y:∀j,br (bo 0 (c8 (lin k) 0 vs++caps)) (bo 0 (q++m)) j=[]\/∃x,args[j]?=some x/\(lin k).contains j=true/\br (bo 0 (c8 (lin k) 0 vs++caps)) (bo 0 (q++m)) j=cv sx.r sv.r x:=by
      intro j;rw[nh]
      by_cases hj:j<q.length
      ·rw[cf (by rw[Z];exact hj),cf hj,rD]
       have hj2:j<vs.length:=by rw[AV.qao S];exact hj
       have hj3:j<args.length:=by rw[<-hvl];exact hj2
       simp only[fR];rw[eJ hj2,eJ hj];simp only[bH];cases hc:(lin k).contains j with
       |false=>left;simp only[bL,if_false];exact AV.qbL _ _
       |true=>right;refine⟨args[j],by simp[hj3],rfl,?_⟩;simp only[if_true];exact hvo j _ _ _ (by simp[hj2]) (by simp[hj]) (by simp[hj3])
      ·left
       rw[cF (by rw[Z];omega),cF (by omega),Z];split
       ·rename_i a b e hb
        have:=AV.qcB e hb;rw[hco]at this;exact pm.1 this
       ·rfl
     have K:∀j a,a∈br (bo 0 (c8 (lin k) 0 vs++caps)) (bo 0 (q++m)) j->∃x,args[j]?=some x/\(lin k).contains j=true/\x∈dV (lin k) 0 args/\a∈cv sx.r sv.r x:=by
      intro j a e;rcases Y j with h0|⟨x,D,h7,h8⟩
      ·rw[h0]at e;simp at e
      ·exact⟨x,D,h7,Cc _ args 0 j x D (by simpa using h7),by rw[<-h8];exact e⟩
     have w:∀t a,a∈br (dC T sx.r (dV (lin k) 0 args)) sv.r t->a∈br sx.r sv.r t:=by
      intro t a e;rw[jK]at e;split at e
      ·simp at e
      ·exact e
     have hheld:Held (fun a=>F a\/∃t,a∈br (dC T sx.r (dV (lin k) 0 args)) sv.r t) (Fut ((sv.c+i)::p) 0) sv.A (aI (bo 0 (c8 (lin k) 0 vs++caps)) sx.B (bo 0 (q++m)) sv.B):=by
      refine⟨fun ℓ=> ?_,fun ℓ ℓ' a e g=> ?_,fun ℓ a e=> ?_,fun a e=> ?_⟩
      ·cases ℓ with
       |reg j=>
        simp only[aI];rcases Y j with h0|⟨x,_,_,h8⟩
        ·rw[h0];simp
        ·rw[h8];exact h.qa8 x
       |box j=>exact h.held.nodup (.box j)
      ·cases ℓ with
       |reg j=>
        obtain⟨x,g1,g2,g3,g4⟩:=K j a e;cases ℓ' with
        |reg P=>
         obtain⟨x',c2,b1,g3',x1⟩:=K P a g;rcases Nat.lt_trichotomy j P with hlt|heq|hgt
         ·exact absurd x1 (h.qek (Cp args 0 j P x x' a2 g1 c2 (by simpa using g2) (by simpa using b1) hlt) g4)
         ·rw[heq]
         ·exact absurd g4 (h.qek (Cp args 0 P j x' x a2 c2 g1 (by simpa using b1) (by simpa using g2) hgt) x1)
        |box P=>obtain⟨n,rfl,_,g5⟩:=h.qdL g4;have:=h.held.apart (.reg n) (.box P) a g5 g;simp at this
       |box j=>
        cases ℓ' with
        |reg P=>obtain⟨x',c2,b1,g3',x1⟩:=K P a g;obtain⟨n,rfl,_,g5⟩:=h.qdL x1;have:=h.held.apart (.reg n) (.box j) a g5 e;simp at this
        |box P=>exact h.held.apart (.box j) (.box P) a e g
      ·cases ℓ with
       |reg j=>
        obtain⟨x,g1,g2,g3,g4⟩:=K j a e;obtain⟨N,I,q3⟩:=h.qb5 g4;refine⟨N,?_,fun J=>q3 J.sub⟩
        rintro(Q|⟨t,ht⟩)
        ·exact I Q
        ·exact h.qcA g3 g4 (.reg t) ht
       |box j=>
        obtain⟨N,I,q3⟩:=h.held.opn (.box j) a e;refine⟨N,?_,fun J=>q3 J.sub⟩
        rintro(Q|⟨t,ht⟩)
        ·exact I Q
        ·have:=h.held.apart (.box j) (.reg t) a e (w t a ht)
         simp at this
      ·rcases e with Q|⟨t,ht⟩
       ·exact⟨(h.held.fr a Q).1,fun J=>(h.held.fr a Q).2 J.sub⟩
       ·obtain⟨N,I,q3⟩:=h.held.opn (.reg t) a (w t a ht)
        exact⟨N,fun J=>q3 J.sub⟩
     obtain⟨u,R,A1,hV,x3,hbf,M,x2⟩:=a1 k _ _ _ _ G ((sv.c+i)::p) (q++m) sv.B sv.A _ H h.boxes hheld (fun j hj=>by
      rcases Y j with h0|⟨x,_,h7,_⟩
      ·exact h0
      ·rw[hj]at h7;simp at h7) (fun a e J=>(h.am a e).1 J.sub)
     have b2:∀a,A1 a=true->¬Fut p (sv.c+i+1) a/\(A0 a=true\/Fut p 0 a):=by
      intro a e;rcases x2 a e with D|D
      ·exact⟨fun J=>(h.am a D).1 (J.le (ch _)),(h.am a D).2⟩
      ·exact⟨D.qiX (j1 _),.inr (D.sub.le (db _))⟩
     have a3:Rel A0 T F p (sv.c+i+1) ⟨dC T sx.r (dV (lin k) 0 args),B⟩ {sv with A:=A1,B:=R}:=by
      refine⟨O.regs,hbf,⟨fun ℓ=> ?_,fun ℓ ℓ' a e g=> ?_,fun ℓ a e=> ?_,fun a e=>⟨(M.fr a (.inl e)).1,fun J=>(h.held.fr a e).2 (J.le (ch _))⟩⟩,O.nl,O.no,b2⟩
      ·cases ℓ with
       |reg t=>exact O.held.nodup (.reg t)
       |box j=>exact M.nodup (.box j)
      ·cases ℓ with
       |reg t=>cases ℓ' with
        |reg t'=>exact O.held.apart (.reg t) (.reg t') a e g
        |box j=>exact absurd (.inr ⟨t,e⟩) (M.opn (.box j) a g).2.1
       |box j=>cases ℓ' with
        |reg t=>exact absurd (.inr ⟨t,g⟩) (M.opn (.box j) a e).2.1
        |box P=>exact M.apart (.box j) (.box P) a e g
      ·cases ℓ with
       |reg t=>obtain⟨N,I,q3⟩:=O.held.opn (.reg t) a e;exact⟨(M.fr a (.inr ⟨t,e⟩)).1,I,fun J=>q3 (J.le (ch _))⟩
       |box j=>obtain⟨N,I,q3⟩:=M.opn (.box j) a e;exact⟨N,fun Q=>I (.inl Q),(b2 a N).1⟩
     refine ew (sv:=sv) (s:={sv with A:=A1,B:=R}) (v:=u) (by simp only[aY,h3,h5,bL,if_false,hV]) rfl ?_;refine a3.put dst x3 (bf _) (fun _=>⟨?_,fun a e=> ?_⟩) (fun a e _=>e) (fun _ hi=> .inl hi) _
     ·have:=M.nodup (.reg 0)
      simp only[aI,fz]at this;simpa using this
     ·have g:a∈aI [(0,v)] B [(0,u)] R (.reg 0):=by simp only[aI,fz];simpa using e
      obtain⟨N,I,q3⟩:=M.opn (.reg 0) a g;refine⟨N,fun Q=>I (.inl Q),(b2 a N).1,fun ℓ _ hm=> ?_⟩;cases ℓ with
      |reg t=>exact I (.inr ⟨t,hm⟩)
      |box j=>have:=M.apart (.reg 0) (.box j) a g hm;simp at this
    ·simp at C
   ·simp at C
 ·simp at C
theorem Ps(g:hZ X V lin){o:VOper}(m:o.linOK T=true)(h:Rel A0 T F p (sv.c+i) sx sv)(e:bm X lin T draw L0 o sx=some sx'):eM A0 T F p V draw L0 i o sv sx':=by
 obtain⟨dst,op,gd,af⟩:=o;cases op with
 |move x=>exact Vm h e
 |pick c a b=>exact Vt h e
 |alloc k z=>exact qO6 h e
 |box k x=>exact qYz h e
 |build z ps=>exact qO5 h m e
 |buildSlice sz z n ps=>exact Or h m e
 |makeSlice k sz b z x=>exact X_ h e
 |load ag sz x=>exact qSM h e
 |store q sz a x=>exact M6 h e
 |storeN sz a x av=>exact RU h e
 |append sz b x y=>exact Wp h m e
 |call iso f args=>exact WQ g h e
 |callS c f args=>exact qO4 g h e
 |append1 sz b x y r v t9=>exact N8 h m e
 |loadS ag sz x c=>exact qO3 h e
 |extract x k=>exact Ts h e
 |eqNil neg x=>simp[bm]at e
 |indexAddr sz arr x y=>exact Pt h e
 |_=>exact J7 (by rfl) h e (by rfl)
theorem Md(h:Rel A0 T F p k sx sv){g:mg}{b:Bool}(e:dh sx.r g=some b):dh sv.r g=some b:=by
 cases g with
 |none=>exact e
 |some q=>
  obtain⟨t,C⟩:=q;simp only[dh]at e⊢
  split at e
  ·rename_i D w
   obtain⟨v,u,m⟩:=h.regs t _ w;simp only[AV.fit,DV.fit]at m;obtain⟨_,rfl,rfl⟩:=m;rw[u];exact e
  ·rename_i w
   obtain⟨v,u,m⟩:=h.regs t _ w;simp only[AV.fit]at m;subst m;rw[u];exact e
  ·simp at e
theorem mS(e:hZ X V lin):∀{os:aC} {i:Nat} {sx:XS} {sv:St},os.all (VOper.linOK T)=true->Rel A0 T F p (sv.c+i) sx sv->bl X lin T draw L0 os sx=some sx'->
 ∃q,cX V p draw L0 i os sv=some q/\Rel A0 T F p (sv.c+i+os.length) sx' q/\q.c=sv.c
 | [],i,sx,sv,_,h,g=>by simp[bl]at g;subst g;exact⟨sv,rfl,h,rfl⟩
 |o::os,i,sx,sv,u,h,g=>by
  simp only[gF,aQ]at u;simp only[bl]at g;split at g
  ·rename_i w
   obtain⟨s1,K,I⟩:=az.1 g;obtain⟨v1,J,D,m⟩:=Ps e u.1 h K;obtain⟨C,H,r,G⟩:=mS e (i:=i+1) u.2 (by rw[m];exact D) I;refine⟨C,by simp only[cX,Md h w,J,a9];exact H,?_,by rw[G,m]⟩;rw[m]at r;rw[de,show sv.c+i+(os.length+1)=sv.c+(i+1)+os.length by omega];exact r
  ·rename_i w
   have D:Rel A0 T F p (sv.c+i+1) (be T sx o.dst .und) (sv.put o.dst .und):=by have:=h.put0 o.dst (a:= .und) (v:= .und) (by simp[AV.fit]) (by simp[AV.own]) (ch _) sv.c;rw[AZ]at this;exact this
   have m:(sv.put o.dst .und).c=sv.c:=Ad _ _;obtain⟨C,H,r,G⟩:=mS e (i:=i+1) u.2 (by rw[m];exact D) g;refine⟨C,by simp only[cX,Md h w];exact H,?_,by rw[G,m]⟩;rw[m]at r;rw[de,show sv.c+i+(os.length+1)=sv.c+(i+1)+os.length by omega];exact r
  ·simp at g
theorem o_(r:aE):∀(live:ae) (t:Nat),lk (keep r live) t=if t∈live then lk r t else none
 | [],t=>by simp[keep,lk]
 |a::l,t=>by
  simp only[keep];cases ha:lk r a with
  |none=>
   simp only;rw[o_ r l]
   by_cases e:t=a
   ·subst e;simp[ha]
   ·simp[e]
  |some v=>
   simp only[lk]
   by_cases e:t=a
   ·subst e;simp[ha]
   ·simp only[au e];rw[o_ r l];simp[e]
theorem uE(rx rv:aE)(live:ae)(t:Nat):br (keep rx live) (keep rv live) t=if t∈live then br rx rv t else []:=by
 unfold br;rw[o_,o_]
 by_cases e:t∈live
 ·simp only[aw e]
 ·simp only[au e]
theorem Rel.keep(h:Rel A0 T F p k sx sv)(live:ae):Rel A0 T F p k ⟨keep sx.r live,sx.B⟩ {sv with r:=Go.Proofs.YtpcoohnjllclnaaGreat.VS.keep sv.r live}:=by
 refine⟨fun t x m=> ?_,h.boxes,h.held.shrink (fun ℓ=> ?_) (fun a u _=>u) (fun _ q=>q),fun t e=> ?_,fun t e=> ?_,h.am⟩
 ·simp only[o_]at m⊢
  split at m
  ·rename_i g;rw[aw g];exact h.regs t x m
  ·simp at m
 ·cases ℓ with
  |reg t=>simp only[aI,uE];split<;>simp
  |box j=>exact co _
 ·simp only[uE];split
  ·exact h.nl t e
  ·rfl
 ·simp only[o_]at e⊢
  split at e
  ·rename_i g;rw[aw g];exact h.no t e
  ·rename_i g;rw[au g]
theorem Rel.more(h:Rel A0 T F p k sx sv)(n:Nat):Rel A0 T F p k ⟨sx.r,sx.B++List.replicate n none⟩ {sv with B:=sv.B++List.replicate n none}:=by
 refine⟨h.regs,h.boxes.more n,h.held.shrink (fun ℓ=> ?_) (fun a e _=>e) (fun _ g=>g),h.nl,h.no,h.am⟩;cases ℓ with
 |reg t=>exact co _
 |box j=>simp only[aI,bp,qHP];exact co _
theorem Rel.cut(h:Rel A0 T F p k sx sv)(n:Nat):Rel A0 T F p k ⟨sx.r,sx.B.take n⟩ {sv with B:=sv.B.take n}:=by
 refine⟨h.regs,h.boxes.take n,h.held.shrink (fun ℓ=> ?_) (fun a g _=>g) (fun _ m=>m),h.nl,h.no,h.am⟩;cases ℓ with
 |reg t=>exact co _
 |box j=>
  simp only[aI,bp,ub]
  by_cases e:j<n
  ·simp[e]
  ·simp[e]
theorem Rel.at{c':Nat}(h:Rel A0 T F p k sx sv)(e:k<=k'):Rel A0 T F p k' sx {sv with c:=c'}:=by have:=h.next e;exact⟨this.regs,this.boxes,this.held,this.nl,this.no,this.am⟩
theorem YI(g:hZ X V lin){draw:Bool}{ops:aC}(w:ops.all (VOper.linOK T)=true)(h:Rel A0 T F p sv.c sx sv)(m:jY X lin T draw na live ops sx=some sx'):
 ∃e,jb V p draw na live ops sv=some e/\Rel A0 T F p e.c sx' e:=by
 unfold jY at m;split at m
 ·simp at m
 ·rename_i H
  obtain⟨s1,C,rfl⟩:=ay.1 m;have G:=h.more na;obtain⟨v1,q,u,D⟩:=mS g (i:=0) (sv:={sv with B:=sv.B++List.replicate na none}) w (by simpa using G) C;rw[h.boxes.1]at q;simp only at u D;refine⟨{v1 with r:=keep v1.r live,c:=sv.c+ops.length},by unfold jb;rw[au H,q];rfl,?_⟩;have:=(u.keep live).at (k':=sv.c+ops.length) (c':=sv.c+ops.length) (by omega);exact this
theorem YC(e:hZ X V lin){pre tl:aC}(q:pre.all (VOper.linOK T)=true)(u:tl.all (VOper.linOK T)=true)(h:Rel A0 T F p sv.c sx sv)(m:lL X lin T na live pre tl sx=some sx'):
 ∃g,oH V p na live pre tl sv=some g/\Rel A0 T F p g.c sx' g:=by
 unfold lL at m;split at m
 ·simp at m
 ·rename_i I
  obtain⟨s1,G,m⟩:=az.1 m;obtain⟨s2,H,rfl⟩:=ay.1 m;have J:=h.more na;obtain⟨v1,D,C,e3⟩:=mS e (i:=0) (sv:={sv with B:=sv.B++List.replicate na none}) q (by simpa using J) G;rw[h.boxes.1]at D;simp only[qk]at C e3;obtain⟨w,f1,f2,f3⟩:=mS e (i:=pre.length) (sv:=v1) (draw:=false) (L0:=sx.B.length) u (by rw[e3];exact C) H;rw[h.boxes.1]at f1;refine⟨{w with r:=keep w.r live,c:=sv.c+(pre.length+tl.length)},by unfold oH;rw[au I,D];simp only[a9,f1,bH],?_⟩;have:=(f2.keep live).at (k':=sv.c+(pre.length+tl.length)) (c':=sv.c+(pre.length+tl.length)) (by rw[e3];omega);exact this
theorem un(h:Rel A0 T F p k sx sv)(m:Nat):∀live:ae,aG m (keep sx.r live)=true->aG m (keep sv.r live)=true
 | [],_=>rfl
 |t::ts,e=>by
  simp only[Go.Proofs.YtpcoohnjllclnaaGreat.VS.keep]at e⊢
  cases ht:lk sx.r t with
  |none=>rw[ht]at e;rw[h.no t ht];exact un h m ts e
  |some x=>
   rw[ht]at e;obtain⟨v,q,g⟩:=h.regs t x ht;rw[q];simp only[aG,aQ]at e⊢
   exact⟨by rw[AV.qkV _ _ _ g];exact e.1,un h m ts e.2⟩
theorem qy2{m:Nat}(h:Rel A0 T F p sv.c sx sv)(g:aJ m live sx=some sx'):∃e,sD m live sv=some e/\Rel A0 T F p e.c sx' e:=by
 unfold aJ at g;split at g
 ·rename_i hc
  simp at g;subst g
  refine⟨{sv with r:=keep sv.r live,B:=sv.B.take m},?_,(h.keep live).cut m⟩;unfold sD;simp only;rw[aw ⟨un h m live hc.1,by rw[<-h.boxes.1];exact hc.2⟩]
 ·simp at g
theorem qBi{f:XS->eK}{g:St->rC}(u:∀sx sv e sx',Rel A0 T F p sv.c sx sv->f sx=some (e,sx')->∃m,g sv=some (e,m)/\Rel A0 T F p m.c sx' m)(C:Nat)(live:ae):
 ∀n sx sv e sx',Rel A0 T F p sv.c sx sv->gn f C live n sx=some (e,sx')->∃m,jP g C live n sv=some (e,m)/\Rel A0 T F p m.c sx' m:=by
 intro n
 induction n with
 |zero=>intro sx sv e sx' h r;simp[gn]at r
 |succ n N=>
  intro sx sv e sx' h r;simp only[gn]at r;obtain⟨s0,J,D⟩:=az.1 r;obtain⟨⟨H,s1⟩,G,q⟩:=az.1 D;obtain⟨O,K,M⟩:=qy2 h J;obtain⟨v1,I,w⟩:=u _ _ _ _ M G;simp only[jP,K,I,a9];cases H with
  |normal=>exact N _ _ _ _ w q
  |exit id=>simp at q;obtain⟨rfl,rfl⟩:=q;exact⟨v1,rfl,w⟩
  |ret=>simp at q;obtain⟨rfl,rfl⟩:=q;exact⟨v1,rfl,w⟩
theorem Rel.getB(h:Rel A0 T F p k sx sv){b:Bool}(g:bq sx.r x=some (ax b)):x.get sv.r=some (ax b):=by obtain⟨v,m,e⟩:=h.get g;simp only[AV.fit,DV.fit]at e;obtain⟨y,rfl,rfl⟩:=e;exact m
end
theorem BI:∀{xs vs:al},DV.fits xs vs->DV.fits (xs.flatMap DV.cells) (vs.flatMap DV.cells)/\DV.owns (xs.flatMap DV.cells) (vs.flatMap DV.cells)=DV.owns xs vs
 | [],vs,h=>by simp only[DV.fits]at h;subst h;simp[DV.fits,DV.owns]
 |x::xs,vs,h=>by simp only[DV.fits]at h;obtain⟨v,vs,rfl,e,g⟩:=h;obtain⟨q,m⟩:=BI g;simp only[eI];exact⟨DV.qaW (DV.qa5 e) q,by rw[DV.qaT (DV.qao (DV.qa5 e)),DV.qdy e,m];simp only[DV.owns]⟩
theorem RE{c c' r e:DV}(q:c.fit c')(m:r.fit e):c'.like e=c.like r:=by
 have sh:∀{x v:DV},x.fit v->(∃g g' xs ys,x= .sl g xs/\v= .sl g' ys)\/(∃xs ys,x= .agg xs/\v= .agg ys)\/(∃xs ys,x= .tup xs/\v= .tup ys)\/v=x:=by
  intro x v h;cases x<;>simp only[DV.fit]at h
  case sl g xs=>obtain⟨g',ys,rfl,_⟩:=h;exact .inl ⟨_,_,_,_,rfl,rfl⟩
  case agg xs=>obtain⟨ys,rfl,_⟩:=h;exact .inr (.inl ⟨_,_,rfl,rfl⟩)
  case tup xs=>obtain⟨ys,rfl,_⟩:=h;exact .inr (.inr (.inl ⟨_,_,rfl,rfl⟩))
  all_goals exact .inr (.inr (.inr h))
 rcases sh q with⟨_,_,_,_,rfl,rfl⟩|⟨_,_,rfl,rfl⟩|⟨_,_,rfl,rfl⟩|rfl<;>rcases sh m with⟨_,_,_,_,rfl,rfl⟩|⟨_,_,rfl,rfl⟩|⟨_,_,rfl,rfl⟩|rfl<;>
  first|rfl|(cases e<;>rfl)|(cases c'<;>rfl)|(cases c'<;>cases e<;>rfl)
variable{rs:al}
theorem Ud{rv:al}(G:DV.fits rs rv)(h:DV.fits xs vs)(I:xs.any (fun c=>rs.all fun r=> !c.like r)=true):vs.any (fun c=>rv.all fun r=> !c.like r)=true:=by
 obtain⟨c,hc,m⟩:=vm.1 I;obtain⟨i,hi⟩:=dH.1 hc;obtain⟨c',w,H⟩:=DV.qce h hi;refine vm.2 ⟨c',cg w,bB.2 fun K u=> ?_⟩;obtain⟨k,D⟩:=dH.1 u;have q:k<rs.length:=by rw[DV.qao G];exact(aU.1 D).1
 have g:rs[k]?=some rs[k]:=by simp[q]
 obtain⟨J,e,C⟩:=DV.qce G g;rw[D]at e;simp only[aL]at e;subst e
 rw[RE H C];exact bB.1 m _ (cg g)
mutual
theorem JF{A:Ids}{a:Id}{rs rv:al}(u:DV.fits rs rv):∀(x v:DV),x.fit v->x.xrest rs=true->(∀b,b∈x.own v->A b=true/\b≠a)->v.rest A a rv=true
 | .int k n,v,h,_,_=>by simp only[DV.fit]at h;subst h;simp only[DV.rest]
 | .bool b,v,h,_,_=>by simp only[DV.fit]at h;subst h;simp only[DV.rest]
 | .str s,v,h,_,_=>by simp only[DV.fit]at h;subst h;simp only[DV.rest]
 | .agg cs,v,h,m,q=>by simp only[DV.fit]at h;obtain⟨ds,rfl,e⟩:=h;simp only[DV.xrest]at m;simp only[DV.rest];exact qb u cs ds e m (by simpa only[DV.own]using q)
 | .tup cs,v,h,m,q=>by simp only[DV.fit]at h;obtain⟨ds,rfl,e⟩:=h;simp only[DV.xrest]at m;simp only[DV.rest];exact qb u cs ds e m (by simpa only[DV.own]using q)
 | .sl g xs,v,h,m,q=>by
  simp only[DV.fit]at h;obtain⟨g',ys,rfl,e,I⟩:=h;simp only[DV.xrest,aQ,cI,bu]at m;obtain⟨r,H⟩:=m;simp only[DV.own]at q;simp only[DV.rest,aQ,cI];refine⟨?_,qb u xs ys e H fun b J=>q b (od _ J)⟩;rcases r with(r|r)|r
  ·left;left
   have:xs=[]:=by simpa using r
   subst this;simp only[DV.fits]at e;subst e;rfl
  ·exact .inl (.inr (Ud u (BI e).1 r))
  ·subst r
   rcases I with w|⟨_,w⟩
   ·exact absurd w (by decide)
   ·rcases w with⟨C,_⟩|⟨C,b,sz,rfl,_⟩
    ·left;left
     have:xs=[]:=jX.1 C;subst this;simp only[DV.fits]at e;subst e;rfl
    ·right
     obtain⟨D,G⟩:=q b (lw _ (by rw[aw ⟨rfl,C⟩];simp[Tag.ids]));simp[D,G]
theorem qb{A:Ids}{a:Id}{rs rv:al}(q:DV.fits rs rv):∀(xs vs:al),DV.fits xs vs->DV.xrests rs xs=true->(∀b,b∈DV.owns xs vs->A b=true/\b≠a)->DV.rests A a rv vs=true
 | [],vs,h,_,_=>by simp only[DV.fits]at h;subst h;simp only[DV.rests]
 |x::xs,vs,h,m,g=>by simp only[DV.fits]at h;obtain⟨v,vs,rfl,u,r⟩:=h;simp only[DV.xrests,aQ]at m;simp only[DV.owns]at g;simp only[DV.rests,aQ];exact⟨JF q x v u m.1 fun b e=>g b (lw _ e),qb q xs vs r m.2 fun b e=>g b (od _ e)⟩
end
theorem NJ{rv:al}(q:DV.fits rs rv)(x v:AV)(h:x.fit v)(e:x.xrest rs=true)(g:∀b,b∈x.own v->A b=true/\b≠a):v.rest A a rv=true:=by
 cases x with
 |d x=>simp only[AV.fit]at h;obtain⟨y,rfl,m⟩:=h;exact JF q x y m e g
 |ptr i o=>simp only[AV.fit]at h;subst h;rfl
 |nilp=>simp only[AV.fit]at h;subst h;rfl
 |bsl id ag i sz n=>simp only[AV.fit]at h;obtain⟨_,rfl⟩:=h;rfl
 |tsl ag i sz n=>simp only[AV.fit]at h;subst h;rfl
 |und=>simp only[AV.fit]at h;subst h;rfl
 |fn f cap=>
  cases cap with
  |nil=>simp only[AV.fit,AV.fits]at h;obtain⟨_,rfl,rfl,_⟩:=h;rfl
  |cons c r=>simp[AV.xrest]at e
 |ep cs=>simp[AV.xrest]at e
 |ag t cs=>simp[AV.xrest]at e
theorem MY{rv:al}(q:DV.fits rs rv):∀(xs vs:aA),AV.fits xs vs->xs.all (AV.xrest rs)=true->(∀b,b∈AV.owns xs vs->A b=true/\b≠a)->vs.all (AV.rest A a rv)=true
 | [],vs,h,_,_=>by simp only[AV.fits]at h;subst h;rfl
 |x::xs,vs,h,m,g=>by
  simp only[AV.fits]at h;obtain⟨v,vs,rfl,u,r⟩:=h;simp only[gF,aQ]at m⊢
  simp only[AV.owns]at g;exact⟨NJ q x v u m.1 fun b e=>g b (lw _ e),MY q xs vs r m.2 fun b e=>g b (od _ e)⟩
theorem IX{B:ar}(h:qbe B Bv)(L:Nat):qbe (dp L B) (dp L Bv):=by
 refine⟨by simp[dp,h.1],fun i=> ?_⟩;unfold dp
 by_cases hi:i<L
 ·rw[cf (by simpa using hi),cf (by simpa using hi)]
  simp[hi]
 ·rw[cF (by simp;omega),cF (by simp;omega)]
  simp only[Gq,gP];exact h.2 _
theorem XZ{own:Loc->eq}(h:Held F Fu A own)(φ:Loc->Loc)(e:∀ℓ,(own' ℓ).Sublist (own (φ ℓ)))(hφ:∀ℓ ℓ',own' ℓ≠[]->own' ℓ'≠[]->φ ℓ=φ ℓ'->ℓ=ℓ')
 (w:∀x,A x=true->(F x\/∃ℓ,x∈own' ℓ)->A' x=true):Held F Fu A' own':=by
 refine⟨fun ℓ=>(h.nodup _).sublist (e ℓ),fun ℓ ℓ' a g m=> ?_,fun ℓ a g=> ?_,fun a g=> ?_⟩
 ·exact hφ ℓ ℓ' (fun u=>by rw[u]at g;simp at g) (fun u=>by rw[u]at m;simp at m) (h.apart _ _ a ((e ℓ).subset g) ((e ℓ').subset m))
 ·obtain⟨r,q,C⟩:=h.opn _ a ((e ℓ).subset g)
  exact⟨w a r (.inr ⟨ℓ,g⟩),q,C⟩
 ·obtain⟨r,q⟩:=h.fr a g
  exact⟨w a r (.inl g),q⟩
variable{t:Nat}
section
variable {A0:Ids} {T:ae} {F:Id->Prop} {p:Id} {sx sx':XS} {sv:St}
theorem wK(h:Rel A0 T F p k sx sv){rv:al}(u:DV.fits rs rv):∀(live:ae),jv rs (keep sx.r live)=true->(∀t,t∈live->∀b,b∈br sx.r sv.r t->sv.A b=true/\b≠a)->xV sv.A a rv (keep sv.r live)=true
 | [],_,_=>rfl
 |t::ts,e,q=>by
  simp only[Go.Proofs.YtpcoohnjllclnaaGreat.VS.keep]at e⊢
  cases ht:lk sx.r t with
  |none=>rw[ht]at e;rw[h.no t ht];exact wK h u ts e fun m g=>q m (em _ g)
  |some x=>
   obtain⟨v,w,D⟩:=h.regs t x ht;rw[ht]at e;rw[w];simp only[jv,xV,gF,aQ]at e⊢
   refine⟨NJ u x v D e.1 fun b C=>q t (by simp) b (by unfold br;rw[ht,w];exact C),wK h u ts e.2 fun m g=>q m (em _ g)⟩
theorem Nj{B:ar}{rv:al}(H:DV.fits rs rv)(g:qbe B Bv)(G:ft rs B=true)(w:∀j b,b∈bp B Bv j->A b=true/\b≠a):u_ A a rv Bv=true:=by
 refine bB.2 fun q h=> ?_
 obtain⟨i,hi⟩:=dH.1 h;cases q with
 |none=>rfl
 |some ds=>
  have r:i<B.length:=by rw[g.1];exact(aU.1 hi).1
  have e:B[i]?=some B[i]:=by simp[r]
  cases h:B[i]with
  |none=>rw[h]at e;have:=(g.2 i).1 e;rw[hi]at this;simp at this
  |some cs=>
   rw[h]at e;obtain⟨C,m,u⟩:=(g.2 i).2 cs e;rw[hi]at m;simp only[aL]at m;subst m
   have D:=bB.1 G _ (cg e);refine MY H cs ds u D fun b g=>w i b ?_
   unfold bp aT;rw[e,hi];exact g
theorem J3{x v:DV}{g':Tag}(h:(DV.sl U (x::xs)).fit (.sl g' (v::vs))):∃a sz,g'= .own a sz/\x.cells.length=sz/\b_ v=b_ x/\vs.length=xs.length/\
 (DV.sl U (x::xs)).own (.sl g' (v::vs))=a::DV.owns (x::xs) (v::vs)/\DV.fits (x::xs) (v::vs):=by
 simp only[DV.fit]at h;obtain⟨g2,ys,e,m,C⟩:=h;simp only[DV.sl.injEq]at e;obtain⟨rfl,rfl⟩:=e;rcases C with q|⟨_,q⟩
 ·exact absurd q (by decide)
 ·rcases q with⟨r,_⟩|⟨r,a,sz,rfl,D⟩
  ·simp at r
  ·have g:=m
   simp only[DV.fits]at m;obtain⟨w,ws,e,u,G⟩:=m;simp only[List.cons.injEq]at e;obtain⟨rfl,rfl⟩:=e;refine⟨a,sz,rfl,by rw[<-DV.qbH u];exact D v (by simp),T2 u,(DV.qao G).symm,?_,g⟩;simp only[DV.own];rw[aw ⟨trivial,r⟩];rfl
theorem Pg(h:Rel A0 T F p sv.c sx sv)(N:gp (.focR t live) sx=some sx'):∃M,iH (.focR t live) sv=some M/\Rel A0 T F p M.c sx' M:=by
 simp only[gp]at N;split at N
 ·rename_i x xs hl
  split at N
  ·rename_i hc
   obtain⟨ht,h1,h2,h3⟩:=hc;simp only[aL]at N;subst N
   obtain⟨v0,hv,hf⟩:=h.regs t _ hl;simp only[AV.fit]at hf;obtain⟨y0,rfl,hf⟩:=hf;have Y:=hf;simp only[DV.fit]at Y;obtain⟨g',b2,rfl,H,_⟩:=Y;simp only[DV.fits]at H;obtain⟨y,ys,rfl,_,_⟩:=H;obtain⟨a,sz,rfl,x3,a1,x1,R,H⟩:=J3 hf;obtain⟨W,r2⟩:=BI H;have D:br sx.r sv.r t=a::DV.owns (x::xs) (y::ys):=by unfold br;rw[hl,hv];exact R
   have Z:a∈aI sx.r sx.B sv.r sv.B (.reg t):=by simp only[aI,D];simp
   obtain⟨ha,a3,hFu⟩:=h.held.opn _ a Z;have G:∀ℓ,ℓ≠.reg t->∀b,b∈aI sx.r sx.B sv.r sv.B ℓ->sv.A b=true/\b≠a:=fun ℓ hℓ b w=>⟨(h.held.opn ℓ b w).1,fun g=>by subst g;exact hℓ (h.held.apart _ _ _ w Z)⟩
   have Q:=h.held.nodup (.reg t);simp only[aI,D,ju]at Q;have h4:∀b,b∈DV.owns (x::xs) (y::ys)->sv.A b=true/\b≠a:=fun b w=>⟨(h.held.opn (.reg t) b (by simp only[aI,D];simp[w])).1,fun g=>Q.1 (by rw[<-g];exact w)⟩
   have x2:t∉live:=by simpa using ht
   have c1:=wK h W live h1 (a:=a) fun m u b w=>G (.reg m) (fun g=>by simp at g;subst g;exact x2 u) b w
   have c2:=Nj (A:=sv.A) (a:=a) W h.boxes h2 fun j b w=>G (.box j) (by simp) b w
   have c3:=qb (A:=sv.A) (a:=a) W _ _ W h3 (by rw[r2];exact h4);refine⟨_,by simp only[iH,hv];rw[aw ⟨ha,ht,c1,c2,c3⟩],?_⟩;rw[a1,x1,<-x3,<-h.boxes.1];have hk:=h.keep live;have a2:qbe (sx.B++[some (((x::xs).flatMap DV.cells).map .d)]) (sv.B++[some (((y::ys).flatMap DV.cells).map .d)]):=by
    refine⟨by simp[h.boxes.1],fun i=> ?_⟩
    by_cases hi:i<sx.B.length
    ·rw[cf hi,cf (by rw[<-h.boxes.1];exact hi)];exact h.boxes.2 i
    ·rw[cF (by omega),cF (by rw[<-h.boxes.1];omega),h.boxes.1]
     rw[h.boxes.1]at hi
     by_cases b1:i-sv.B.length=0
     ·rw[b1]
      exact⟨by simp,fun cs P=>⟨_,rfl,by simp only[eG,aL]at P;subst P;exact AV.qiY W⟩⟩
     ·rw[gU (by simp;omega)];simp
   have h5:∀j,j<sx.B.length->bp (sx.B++[some (((x::xs).flatMap DV.cells).map .d)]) (sv.B++[some (((y::ys).flatMap DV.cells).map .d)]) j=bp sx.B sv.B j:=fun j I=>by unfold bp aT;rw[cf I,cf (by rw[<-h.boxes.1];exact I)]
   have J:bp (sx.B++[some (((x::xs).flatMap DV.cells).map .d)]) (sv.B++[some (((y::ys).flatMap DV.cells).map .d)]) sx.B.length=DV.owns (x::xs) (y::ys):=by unfold bp aT;rw[cF (bf _),cF (by rw[h.boxes.1];exact bf _),h.boxes.1];simp only[nw,eG];rw[AV.qiW,r2]
   have K:∀j,sx.B.length<j->bp (sx.B++[some (((x::xs).flatMap DV.cells).map .d)]) (sv.B++[some (((y::ys).flatMap DV.cells).map .d)]) j=[]:=fun j I=>by unfold bp aT;rw[gU (by simp;omega)]
   have q:∀m,br ((t,.tsl (b_ x) sx.B.length x.cells.length (xs.length+1))::Go.Proofs.YtpcoohnjllclnaaGreat.VS.keep sx.r live) ((t,.tsl (b_ x) sx.B.length x.cells.length (xs.length+1))::Go.Proofs.YtpcoohnjllclnaaGreat.VS.keep sv.r live) m=if m=t then []else br (Go.Proofs.YtpcoohnjllclnaaGreat.VS.keep sx.r live) (Go.Proofs.YtpcoohnjllclnaaGreat.VS.keep sv.r live) m:=fun m=>by
    unfold br
    by_cases g:m=t
    ·simp[lk,g,AV.own]
    ·simp[lk,g]
   refine⟨fun m x' C=> ?_,a2,XZ (F:=F) (A:=sv.A) h.held (fun ℓ=>match ℓ with| .reg m=> .reg m| .box j=>if j=sx.B.length then .reg t else .box j) (fun ℓ=> ?_) (fun ℓ ℓ' e1 e2 g=> ?_) (fun b w e=> ?_),fun m u=> ?_,fun m u=> ?_,fun b w=> ?_⟩
   ·simp only[lk]at C⊢
    split at C
    ·rename_i g;rw[aw g]
     simp only[aL]at C;subst C
     exact⟨_,rfl,by simp only[AV.fit]⟩
    ·rename_i g;rw[au g];exact hk.regs m x' C
   ·cases ℓ with
    |reg m=>
     simp only[aI,q];split
     ·exact kE _
     ·rw[uE];split<;>simp
    |box j=>
     simp only[aI]
     by_cases I:j=sx.B.length
     ·subst I
      rw[J,aw rfl];simp only[D];exact IP _ _
     ·simp only[au I]
      by_cases O:j<sx.B.length
      ·rw[h5 j O];exact co _
      ·rw[K j (by omega)];exact kE _
   ·cases ℓ with
    |reg t1=>
     cases ℓ' with
     |reg t2=>simpa using g
     |box j=>
      simp only at g;split at g
      ·simp only[Loc.reg.injEq]at g
       subst g;simp only[aI,q,if_true]at e1;simp at e1
      ·simp at g
    |box j=>
     cases ℓ' with
     |reg t2=>
      simp only at g;split at g
      ·simp only[Loc.reg.injEq]at g
       subst g;simp only[aI,q,if_true]at e2;simp at e2
      ·simp at g
     |box j'=>
      simp only at g;split at g<;>split at g
      ·simp_all
      ·simp at g
      ·simp at g
      ·exact g
   ·simp only[Ids.del,w,nG,fT,jN]
    rcases e with e|⟨ℓ,e⟩
    ·exact fun g=>by subst g;exact a3 e
    ·cases ℓ with
     |reg m=>
      simp only[aI,q]at e;split at e
      ·simp at e
      ·rename_i S
       rw[uE]at e;split at e
       ·exact(G (.reg m) (by simpa using S) b e).2
       ·simp at e
     |box j=>
      simp only[aI]at e
      by_cases I:j=sx.B.length
      ·subst I;rw[J]at e;exact(h4 b e).2
      ·by_cases O:j<sx.B.length
       ·rw[h5 j O]at e;exact(G (.box j) (by simp) b e).2
       ·rw[K j (by omega)]at e;simp at e
   ·show br _ _ m=[]
    rw[q];split
    ·rfl
    ·exact hk.nl m u
   ·simp only[lk]at u⊢
    split at u
    ·simp at u
    ·rename_i g;rw[au g];exact hk.no m u
   ·simp only[Ids.del,aQ]at w
    exact h.am b w.2
  ·simp at N
 ·simp at N
theorem qIx(h:Rel A0 T F p sv.c sx sv)(N:gp (.focC t off live) sx=some sx'):∃b1,iH (.focC t off live) sv=some b1/\Rel A0 T F p b1.c sx' b1:=by
 simp only[gp]at N;split at N
 ·rename_i j o hl
  obtain⟨cs,a1,N⟩:=az.1 N;split at N
  ·rename_i x xs C
   split at N
   ·rename_i hc
    obtain⟨x1,h1,h2,h3⟩:=hc;simp only[aL]at N;subst N
    have hlv:=h.getR hl;obtain⟨ds,hds,b2⟩:=h.boxes.get a1;obtain⟨v0,w,hf⟩:=AV.qce b2 C;simp only[AV.fit]at hf;obtain⟨y0,rfl,hf⟩:=hf;have hf':=hf;simp only[DV.fit]at hf';obtain⟨g',ys0,rfl,S,_⟩:=hf';simp only[DV.fits]at S;obtain⟨y,ys,rfl,_,_⟩:=S;obtain⟨a,sz,rfl,hsz,hag,hlen,hown,S⟩:=J3 hf;obtain⟨r1,r2⟩:=BI S;have W:o+off<cs.length:=(aU.1 C).1;have G:=AV.qao b2;have x2:j+1<sx.B.length:=(aU.1 (jz.1 a1)).1;have Q:bp sx.B sv.B (j+1)=AV.owns cs ds:=by unfold bp;rw[a1,hds]
    have g:AV.owns cs ds=AV.owns (cs.take (o+off)) (ds.take (o+off))++((a::DV.owns (x::xs) (y::ys))++AV.owns (cs.drop (o+off+1)) (ds.drop (o+off+1))):=by
     rw[AV.qbX G (o+off),AV.qbX (a:=cs.drop (o+off)) (c:=ds.drop (o+off)) (by simp[G]) 1,l_,l_]
     congr 2
     have R:(cs.drop (o+off)).take 1=[.d (.sl U (x::xs))]:=by
      rw[dl W];have:cs[o+off]= .d (.sl U (x::xs)):=by rw[eJ W]at C;exact tM C
      simp[this]
     have Z:(ds.drop (o+off)).take 1=[.d (.sl (.own a sz) (y::ys))]:=by
      have hkv:o+off<ds.length:=by omega
      rw[dl hkv];have:ds[o+off]= .d (.sl (.own a sz) (y::ys)):=by rw[eJ hkv]at w;exact tM w
      simp[this]
     rw[R,Z];simp only[AV.owns,AV.own,hown,dB]
    have a2:AV.fits (cs.set (o+off) (.tsl (b_ x) j x.cells.length (xs.length+1))) (ds.set (o+off) (.tsl (b_ y) j sz (ys.length+1))):=by
     rw[hag,hlen,<-hsz];refine(AV.qbl _ _).2 ⟨by simp[G],fun i q q' h4 h5=> ?_⟩
     by_cases hi:i=o+off
     ·subst hi
      rw[iM W]at h4;rw[iM (by omega)]at h5;simp only[aL]at h4 h5;subst h4;subst h5
      simp only[AV.fit]
     ·rw[dK (Ne.symm hi)]at h4 h5
      exact((AV.qbl _ _).1 b2).2 i q q' h4 h5
    have a3:AV.owns (cs.set (o+off) (.tsl (b_ x) j x.cells.length (xs.length+1))) (ds.set (o+off) (.tsl (b_ y) j sz (ys.length+1)))=AV.owns (cs.take (o+off)) (ds.take (o+off))++AV.owns (cs.drop (o+off+1)) (ds.drop (o+off+1)):=by
     have R:cs.set (o+off) (.tsl (b_ x) j x.cells.length (xs.length+1))=cs.take (o+off)++(.tsl (b_ x) j x.cells.length (xs.length+1)::cs.drop (o+off+1)):=by rw[tO,aw W]
     have Z:ds.set (o+off) (.tsl (b_ y) j sz (ys.length+1))=ds.take (o+off)++(.tsl (b_ y) j sz (ys.length+1)::ds.drop (o+off+1)):=by rw[tO,aw (by omega)]
     rw[R,Z,AV.qaT (by simp[G])];simp[AV.owns,AV.own]
    have hat:a∈aI sx.r sx.B sv.r sv.B (.box (j+1)):=by simp only[aI,Q,g];simp
    obtain⟨ha,hFa,hFu⟩:=h.held.opn _ a hat;have Y:∀ℓ,ℓ≠.box (j+1)->∀b,b∈aI sx.r sx.B sv.r sv.B ℓ->sv.A b=true/\b≠a:=fun ℓ hℓ b e=>⟨(h.held.opn ℓ b e).1,fun he=>by subst he;exact hℓ (h.held.apart _ _ _ e hat)⟩
    have I:=h.held.nodup (.box (j+1));simp only[aI,Q,g]at I;have x3:∀b,b∈AV.owns cs ds->sv.A b=true:=fun b e=>(h.held.opn (.box (j+1)) b (by simp only[aI,Q];exact e)).1
    have hin:∀b,b∈DV.owns (x::xs) (y::ys)->sv.A b=true/\b≠a:=fun b e=>⟨x3 b (by rw[g];simp[e]),fun he=>by rw[cJ,dk,ju]at I;exact I.2.1.1 (by rw[<-he];simp[e])⟩
    have K:∀b,b∈AV.owns (cs.take (o+off)) (ds.take (o+off))++AV.owns (cs.drop (o+off+1)) (ds.drop (o+off+1))->sv.A b=true/\b≠a:=fun b e=>⟨x3 b (by rw[g];simp only[bC,bK]at e⊢;rcases e with e|e<;>simp[e]),fun he=>by
     subst he;rw[cJ,dk,ju]at I;rcases bC.1 e with e|e
     ·exact I.2.2 b e b (by simp) rfl
     ·exact I.2.1.1 (by simp[e])⟩
    have J:qbe (sx.B.set (j+1) (some (cs.set (o+off) (.tsl (b_ x) j x.cells.length (xs.length+1))))) (sv.B.set (j+1) (some (ds.set (o+off) (.tsl (b_ y) j sz (ys.length+1))))):=h.boxes.set (j+1) a2;have O:∀i,i≠j+1->bp (sx.B.set (j+1) (some (cs.set (o+off) (.tsl (b_ x) j x.cells.length (xs.length+1))))) (sv.B.set (j+1) (some (ds.set (o+off) (.tsl (b_ y) j sz (ys.length+1))))) i=bp sx.B sv.B i:=fun i hi=>xe (Ne.symm hi)
    have D:bp (sx.B.set (j+1) (some (cs.set (o+off) (.tsl (b_ x) j x.cells.length (xs.length+1))))) (sv.B.set (j+1) (some (ds.set (o+off) (.tsl (b_ y) j sz (ys.length+1))))) (j+1)=AV.owns (cs.take (o+off)) (ds.take (o+off))++AV.owns (cs.drop (o+off+1)) (ds.drop (o+off+1)):=by rw[Bg x2 (by rw[<-h.boxes.1];exact x2),a3]
    have c1:=wK h r1 live h1 (a:=a) fun t' ht' b e=>Y (.reg t') (by simp) b e
    have c2:=Nj (A:=sv.A) (a:=a) r1 J h2 fun i b e=>by
     by_cases hi:i=j+1
     ·subst hi;rw[D]at e;exact K b e
     ·rw[O i hi]at e;exact Y (.box i) (by simpa using hi) b e
    have c3:=qb (A:=sv.A) (a:=a) r1 _ _ r1 h3 (by rw[r2];exact hin);refine⟨_,by simp only[iH,hlv,hds,a9,w];rw[aw ⟨ha,by rw[h.boxes.free];exact x1,c1,c2,c3⟩],?_⟩;have hk:=h.keep live;have hjB:j<(sx.B.set (j+1) (some (cs.set (o+off) (.tsl (b_ x) j x.cells.length (xs.length+1))))).length:=by rw[lm];omega
    have hjBv:j<(sv.B.set (j+1) (some (ds.set (o+off) (.tsl (b_ y) j sz (ys.length+1))))).length:=by rw[lm,<-h.boxes.1];omega
    have P:bp ((sx.B.set (j+1) (some (cs.set (o+off) (.tsl (b_ x) j x.cells.length (xs.length+1))))).set j (some (((x::xs).flatMap DV.cells).map .d))) ((sv.B.set (j+1) (some (ds.set (o+off) (.tsl (b_ y) j sz (ys.length+1))))).set j (some (((y::ys).flatMap DV.cells).map .d))) j=DV.owns (x::xs) (y::ys):=by rw[Bg hjB hjBv,AV.qiW,r2]
    have M:∀i,i≠j->bp ((sx.B.set (j+1) (some (cs.set (o+off) (.tsl (b_ x) j x.cells.length (xs.length+1))))).set j (some (((x::xs).flatMap DV.cells).map .d))) ((sv.B.set (j+1) (some (ds.set (o+off) (.tsl (b_ y) j sz (ys.length+1))))).set j (some (((y::ys).flatMap DV.cells).map .d))) i=bp (sx.B.set (j+1) (some (cs.set (o+off) (.tsl (b_ x) j x.cells.length (xs.length+1))))) (sv.B.set (j+1) (some (ds.set (o+off) (.tsl (b_ y) j sz (ys.length+1))))) i:=fun i hi=>xe (Ne.symm hi)
    have hfreeo:bp sx.B sv.B j=[]:=by
     unfold bp aT;unfold cO at x1;split at x1
     ·rename_i hq;rw[hq]
     ·simp at x1
    have H:∀ℓ,(aI (Go.Proofs.YtpcoohnjllclnaaGreat.VS.keep sx.r live) ((sx.B.set (j+1) (some (cs.set (o+off) (.tsl (b_ x) j x.cells.length (xs.length+1))))).set j (some (((x::xs).flatMap DV.cells).map .d))) (Go.Proofs.YtpcoohnjllclnaaGreat.VS.keep sv.r live) ((sv.B.set (j+1) (some (ds.set (o+off) (.tsl (b_ y) j sz (ys.length+1))))).set j (some (((y::ys).flatMap DV.cells).map .d))) ℓ).Sublist (aI sx.r sx.B sv.r sv.B (if ℓ= .box j then .box (j+1)else ℓ))/\
     ∀b,b∈aI (Go.Proofs.YtpcoohnjllclnaaGreat.VS.keep sx.r live) ((sx.B.set (j+1) (some (cs.set (o+off) (.tsl (b_ x) j x.cells.length (xs.length+1))))).set j (some (((x::xs).flatMap DV.cells).map .d))) (Go.Proofs.YtpcoohnjllclnaaGreat.VS.keep sv.r live) ((sv.B.set (j+1) (some (ds.set (o+off) (.tsl (b_ y) j sz (ys.length+1))))).set j (some (((y::ys).flatMap DV.cells).map .d))) ℓ->b≠a:=by
     intro ℓ;cases ℓ with
     |reg t'=>
      simp only[aI,uE,au (show¬(Loc.reg t'=Loc.box j)by simp)];split
      ·exact⟨co _,fun b e=>(Y (.reg t') (by simp) b e).2⟩
      ·exact⟨kE _,fun b e=>by simp at e⟩
     |box i=>
      by_cases hi:i=j
      ·subst hi
       simp only[aI,P,if_true,Q,g];exact⟨((pC _ _).trans (IP _ _)).trans (gV _ _),fun b e=>(hin b e).2⟩
      ·simp only[aI,M i hi,au (show¬(Loc.box i=Loc.box j)by simpa using hi)]
       by_cases hi2:i=j+1
       ·subst hi2
        rw[D,Q,g];exact⟨ig (co _) (gV _ _),fun b e=>(K b e).2⟩
       ·rw[O i hi2]
        exact⟨co _,fun b e=>(Y (.box i) (by simpa using hi2) b e).2⟩
    refine⟨hk.regs,(J.set j (AV.qiY r1)),?_,hk.nl,hk.no,fun b e=> ?_⟩
    ·
     have u:=I;refine⟨fun ℓ=>(h.held.nodup _).sublist (H ℓ).1,fun ℓ ℓ' b e m=> ?_,fun ℓ b e=> ?_,fun b e=> ?_⟩
     ·have q:=h.held.apart _ _ b ((H ℓ).1.subset e) ((H ℓ').1.subset m)
      by_cases R:ℓ= .box j<;>by_cases Z:ℓ'= .box j
      ·rw[R,Z]
      ·rw[aw R,au Z]at q
       exfalso;subst R;subst q
       simp only[aI,P]at e;simp only[aI]at m;rw[M _ (by omega),D]at m;rw[cJ,dk,ju,cJ]at u;rcases bC.1 m with m|m
       ·exact u.2.2 b m b (by simp[e]) rfl
       ·exact u.2.1.2.2.2 b e b m rfl
      ·rw[au R,aw Z]at q
       exfalso;subst Z;subst q
       simp only[aI,P]at m;simp only[aI]at e;rw[M _ (by omega),D]at e;rw[cJ,dk,ju,cJ]at u;rcases bC.1 e with e|e
       ·exact u.2.2 b e b (by simp[m]) rfl
       ·exact u.2.1.2.2.2 b m b e rfl
      ·rw[au R,au Z]at q;exact q
     ·obtain⟨q1,q2,q3⟩:=h.held.opn _ b ((H ℓ).1.subset e)
      exact⟨by simp[Ids.del,q1,(H ℓ).2 b e],q2,q3⟩
     ·obtain⟨q1,q2⟩:=h.held.fr b e
      exact⟨by simp only[Ids.del,q1,nG,fT,jN];exact fun he=>by subst he;exact hFa e,q2⟩
    ·simp only[Ids.del,aQ]at e
     exact h.am b e.2
   ·simp at N
  ·simp at N
 ·simp at N
theorem Ns(h:Rel A0 T F p k sx sv){x:AV}(w:x.fit v)(C:x.own v=[]):Rel A0 T F p k ⟨(t,x)::sx.r,sx.B⟩ {sv with r:=(t,v)::sv.r}:=by
 have u:∀e,br ((t,x)::sx.r) ((t,v)::sv.r) e=if e=t then []else br sx.r sv.r e:=fun e=>by
  unfold br
  by_cases q:e=t
  ·simp[lk,q,C]
  ·simp[lk,q]
 refine⟨fun e x' m=> ?_,h.boxes,h.held.shrink (fun ℓ=> ?_) (fun a D _=>D) (fun _ w=>w),fun e g=> ?_,fun e g=> ?_,h.am⟩
 ·simp only[lk]at m⊢
  split at m
  ·rename_i q;rw[aw q]
   simp only[aL]at m;subst m
   exact⟨_,rfl,w⟩
  ·rename_i q;rw[au q];exact h.regs e x' m
 ·cases ℓ with
  |reg e=>
   simp only[aI,u];split
   ·exact kE _
   ·exact co _
  |box j=>exact co _
 ·show br _ _ e=[]
  rw[u];split
  ·rfl
  ·exact h.nl e g
 ·simp only[lk]at g⊢
  split at g
  ·simp at g
  ·rename_i q;rw[au q];exact h.no e g
theorem Ug{x:Gho}(h:Rel A0 T F p sv.c sx sv)(e:gp x sx=some sx'):∃g,iH x sv=some g/\Rel A0 T F p g.c sx' g:=by
 cases x with
 |focR t live=>exact Pg h e
 |focC t off live=>exact qIx h e
 |frzR t L live=>
  simp only[gp]at e;split at e
  ·rename_i v H
   split at e
   ·rename_i hc
    obtain⟨R,G,O⟩:=hc;obtain⟨d,Z,rfl⟩:=ay.1 e;obtain⟨u,hu,hf⟩:=h.regs t _ H;obtain⟨d',W,P⟩:=WW (IX h.boxes L) v u d hf Z;refine⟨_,by simp only[iH,hu];rw[aw ⟨R,un h L live G,by rw[<-h.boxes.1];exact O⟩,W];rfl,?_⟩;have K:=(h.keep live).cut L;exact Ns (sx:=⟨keep sx.r live,sx.B.take L⟩) (sv:={sv with r:=Go.Proofs.YtpcoohnjllclnaaGreat.VS.keep sv.r live,B:=sv.B.take L}) K (by simp only[AV.fit];exact⟨_,rfl,DV.qcN _ _ P⟩) (by simp only[AV.own,DV.qbL])
   ·simp at e
  ·simp at e
 |frzB t L live=>
  simp only[gp]at e;split at e
  ·rename_i i H
   split at e
   ·rename_i hc
    obtain⟨h0,R,G,O⟩:=hc;obtain⟨cs,J,e⟩:=az.1 e;obtain⟨ds,Q,e⟩:=az.1 e;split at e
    ·rename_i q
     simp only[aL]at e;subst e
     obtain⟨N,w,S⟩:=h.boxes.get J;obtain⟨Y,C,D⟩:=wA (yz (IX h.boxes L) _) cs N ds S Q;rw[h.boxes.1]at C;refine⟨_,by simp only[iH,h.getR H];rw[aw ⟨h0,R,un h L live G,by rw[<-h.boxes.1];exact O⟩,w,a9,C,a9,DV.qbB D,aw q],?_⟩;have K:=(h.keep live).cut L;have m:AV.fits (ds.map fun d=>AV.d d.clr) (Y.map .d):=by have:=AV.qiY (DV.qbm _ _ D);rw[DV.qaw,et]at this;exact this
     have I:AV.owns (ds.map fun d=>AV.d d.clr) (Y.map .d)=[]:=by
      have:ds.map (fun d=>AV.d d.clr)=(DV.clrs ds).map .d:=by rw[DV.qaw,et];rfl
      rw[this,AV.qiW,DV.qef]
     have M:=K.app (Bs:=[some (ds.map fun d=>AV.d d.clr)]) (Bvs:=[some (Y.map .d)]) (BF.one m I);exact Ns (x:= .ptr L 0) (v:= .ptr L 0) M (by simp only[AV.fit]) (by simp[AV.own])
    ·simp at e
   ·simp at e
  ·simp at e
end
variable{s1:XS}{f1 f2 f3:ae}{d3 d1 d2:Nat}
section
variable {A0:Ids} {T:ae} {F:Id->Prop} {p:Id} {sx sx':XS} {sv:St} {X:cq} {V:ct} {lin:Nat->ae} {draw:Bool} {L0 i:Nat}
theorem Rel.over(h:Rel A0 T F p k sx sv)(d:Nat){sx1:XS}(ℓ0:Loc)
 (g:∀t x,lk sx1.r t=some x->∃v,lk sv.r t=some v/\x.fit v) (m:qbe sx1.B sv.B)
 (e:∀ℓ,(aI sx1.r sx1.B sv.r sv.B ℓ).Sublist (aI sx.r sx.B sv.r sv.B ℓ)) (u:∀t,lk sx1.r t=none->lk sx.r t=none)
{a:AV}(q:a.fit v) (w:(a.own v).Nodup) (D:∀j,j∈a.own v->j∈aI sx.r sx.B sv.r sv.B ℓ0/\j∉aI sx1.r sx1.B sv.r sv.B ℓ0)(G:k<=k') (c':Nat):
 Rel A0 T F p k' (be T sx1 (some d) a) {(sv.put (some d) v)with c:=c'}:=by
 have Q:Rel A0 T F p k sx1 sv:=by refine⟨g,m,h.held.shrink e (fun a O _=>O) (fun _ q=>q),fun t C=> ?_,fun t C=>h.no t (u t C),h.am⟩;have:=e (.reg t);simp only[aI]at this;rw[h.nl t C]at this;exact pm.1 this
 refine Q.put (some d) q G (fun _=>⟨w,fun j N=> ?_⟩) (fun i hi _=>hi) (fun _ hi=> .inl hi) c';obtain⟨I,M⟩:=D j N;obtain⟨J,P,K⟩:=h.held.opn ℓ0 j I;refine⟨J,P,fun q=>K (q.le G),fun ℓ _ H=> ?_⟩;have:=h.held.apart ℓ0 ℓ j I ((e ℓ).subset H);subst this;exact M H
theorem sW(call:ct)(p:Id)(draw:Bool)(L0:Nat):∀(a b:aC) (i:Nat) (s:St),cX call p draw L0 i (a++b) s=(cX call p draw L0 i a s).bind (cX call p draw L0 (i+a.length) b)
 | [],b,i,s=>by simp[cX]
 |o::a,b,i,s=>by
  simp only[dk,cX];split
  ·cases aY call p draw L0 i o s with
   |none=>rfl
   |some s1=>simp only[a9];rw[sW call p draw L0 a b];rw[de,Fp,Nat.add_comm 1]
  ·rw[sW call p draw L0 a b];rw[de,Fp,Nat.add_comm 1]
  ·rfl
theorem Tb(h:DV.fits xs ys)(l b:Nat):DV.fits (f9 xs l b) ys:=by
 have e:ys=((ys.take b).take l++(ys.take b).drop l)++ys.drop b:=by rw[d7,d7]
 rw[e];unfold f9;exact DV.qaW (DV.qaW (DV.qbr (DV.qbr h b) l) (DV.qbm _ _ (DV.qbC (DV.qbr h b) l))) (DV.qbC h b)
theorem Jy(l b:Nat):(f9 xs l b).length=xs.length:=by unfold f9;simp only[ek,DV.qc9];rw[<-ek,d7,<-ek,d7]
theorem Hq(h:DV.fits xs ys)(l b:Nat):DV.owns (f9 xs l b) ys=DV.owns ((xs.take b).take l) ((ys.take b).take l)++DV.owns (xs.drop b) (ys.drop b):=by
 have e:ys=((ys.take b).take l++(ys.take b).drop l)++ys.drop b:=by rw[d7,d7]
 conv=>lhs;rw[e]
 unfold f9;have g:=DV.qbr (DV.qbr h b) l;have m:=DV.qbC (DV.qbr h b) l;rw[DV.qaT (by simp[DV.qao g,DV.qao m,DV.qc9];omega),DV.qaT (DV.qao g),DV.qef,dB]
theorem Cz(h:DV.fits xs ys)(l b:Nat):DV.owns xs ys=DV.owns ((xs.take b).take l) ((ys.take b).take l)++(DV.owns ((xs.take b).drop l) ((ys.take b).drop l)++DV.owns (xs.drop b) (ys.drop b)):=by have e:=DV.qao h;rw[DV.qbX e b,DV.qbX (a:=xs.take b) (c:=ys.take b) (by simp[e]) l,cr]
def Gr(A0:Ids)(T:ae)(F:Id->Prop)(p:Id)(V:ct)(draw:Bool)(L0 i:Nat)(f:FOper)(sv:St)(sx':XS):Prop:=∃e,cX V p draw L0 i (f.pre++f.post) sv=some e/\Rel A0 T F p (sv.c+i+(f.pre++f.post).length) sx' e/\e.c=sv.c
theorem P4(h:DV.fits xs ys)(g:xs.all (fun e=>decide (e.cells.length=sz))=true):ys.all (fun e=>decide (e.cells.length=sz))=true:=Iz (DV.qbm _ _ h) g
theorem N4(W:hZ X V lin){a:Nat}{b:VX}{lo hi:iq}(hl:(FOper.sl d1 a d2 b d3 sz lo hi f1 f2 f3).pre.all (VOper.linOK T)=true)(h:Rel A0 T F p (sv.c+i) sx sv)
 (h1:bl X lin T draw L0 (FOper.sl d1 a d2 b d3 sz lo hi f1 f2 f3).pre sx=some s1) (H:iu T (.sl d1 a d2 b d3 sz lo hi f1 f2 f3) s1=some sx'):Gr A0 T F p V draw L0 i (.sl d1 a d2 b d3 sz lo hi f1 f2 f3) sv sx':=by
 obtain⟨sv1,e1,N,c1⟩:=mS W hl h h1;simp only[iu]at H;split at H
 ·rename_i g xs h5 h3 k1 k2 k3
  split at H
  ·rename_i hc
   obtain⟨⟨ha,h4,n1,n2,n3⟩,Y⟩:=hc;obtain⟨e,q1,H⟩:=az.1 H;obtain⟨q,q2,H⟩:=ay.1 H;subst H;have M:lk sv1.r d1=lk sv1.r a:=by
    simp only[FOper.pre,cX,dh,aY,aK]at e1;obtain⟨t1,e2,e3⟩:=az.1 e1;obtain⟨va,e4,rfl⟩:=ay.1 e2;obtain⟨t2,e5,e6⟩:=az.1 e3;obtain⟨vb,e7,rfl⟩:=ay.1 e5;simp only[aL]at e6;subst e6
    simp only[VX.get]at e4;simp only[St.put,lk,au n3,au (Ne.symm n1),au (Ne.symm n2),if_true];exact e4.symm
   obtain⟨w,Z,kf⟩:=N.regs a _ k1;have O:=kf;simp only[AV.fit,DV.fit]at O;obtain⟨_,rfl,g',ys,rfl,m,hg⟩:=O;have R:=DV.qao m;obtain⟨lv,m1,m2,m3⟩:=oC N.er k2;obtain⟨hv,m4,m5,m6⟩:=oC N.er k3;have z1:fk ys.length hv=some e:=by rw[<-R,Fz m5 m6];exact q1
   have z2:fj e lv=some q:=by rw[Em m2 m3];exact q2
   have ev:cX V p draw L0 (i+2) [⟨some d3,.slice false sz (.t d1) lo hi,none,f3⟩] sv1=some (sv1.put (some d3) (.d (.sl (if g'= .nil then .nil else .sub) ((ys.take e).drop q)))):=by simp only[cX,dh,aY,aK,VX.get,M,Z,m1,m4];rw[aw (P4 m Y),z1];simp only[a9,z2,bH]
   refine⟨_,by rw[sW,e1];exact ev,?_,by rw[Ad,c1]⟩;have u:br s1.r sv1.r a=(if g=U/\xs.length≠0 then g'.ids else [])++DV.owns xs ys:=by unfold br;rw[k1,Z];simp only[AV.own,DV.own]
   have G:br ((a,AV.d (.sl g (f9 xs q e)))::s1.r) sv1.r a=(if g=U/\xs.length≠0 then g'.ids else [])++DV.owns (f9 xs q e) ys:=by unfold br;rw[Z];simp only[lk,if_true,AV.own,DV.own,Jy]
   have h2:∀t,t≠a->br ((a,AV.d (.sl g (f9 xs q e)))::s1.r) sv1.r t=br s1.r sv1.r t:=fun t D=>by unfold br;simp only[lk];rw[au D]
   have K:=N.held.nodup (.reg a);simp only[aI]at K;rw[u,Cz m q e]at K;obtain⟨u1,u2,u3⟩:=cJ.1 K;obtain⟨v1,v2,v3⟩:=cJ.1 u2;obtain⟨w1,w2,w3⟩:=cJ.1 v2;have Q:(AV.d (.sl .sub ((xs.take e).drop q))).own (.d (.sl (if g'= .nil then .nil else .sub) ((ys.take e).drop q)))=DV.owns ((xs.take e).drop q) ((ys.take e).drop q):=by simp[AV.own,DV.own,U]
   have J:=N.over d3 (sx1:=⟨(a,AV.d (.sl g (f9 xs q e)))::s1.r,s1.B⟩) (.reg a) (a:= .d (.sl .sub ((xs.take e).drop q))) (v:= .d (.sl (if g'= .nil then .nil else .sub) ((ys.take e).drop q)))
    (fun t x C=>by
     simp only[lk]at C;split at C
     ·rename_i D;subst D
      simp only[aL]at C;subst C
      refine⟨_,Z,?_⟩;simp only[AV.fit,DV.fit];exact⟨_,rfl,_,_,rfl,Tb m q e,by rw[Jy];exact hg⟩
     ·exact N.regs t x C)
    N.boxes
    (fun ℓ=>by
     cases ℓ with
     |box j=>exact co _
     |reg t=>
      simp only[aI]
      by_cases D:t=a
      ·subst D
       rw[u,G,Hq m,Cz m q e];exact ig (co _) (ig (co _) (gV _ _))
      ·rw[h2 t D];exact co _)
    (fun t D=>by
     simp only[lk]at D;split at D
     ·simp at D
     ·exact D)
    (by simp only[AV.fit,DV.fit];exact⟨_,rfl,_,_,rfl,DV.qbC (DV.qbr m e) q,Tag.qR4 _ _ _⟩)
    (by rw[Q];exact w1)
    (fun j S=>by
     rw[Q]at S;simp only[aI];rw[u,G,Hq m,Cz m q e];refine⟨by simp[S],fun I=> ?_⟩;rcases bC.1 I with I|I
     ·exact u3 j I j (by simp[S]) rfl
     ·rcases bC.1 I with I|I
      ·exact v3 j I j (by simp[S]) rfl
      ·exact w3 j S j I rfl)
    (k':=sv.c+i+3) (by simp[FOper.pre]) sv.c
   have P:({(sv1.put (some d3) (.d (.sl (if g'= .nil then .nil else .sub) ((ys.take e).drop q))))with c:=sv.c}:St)=sv1.put (some d3) (.d (.sl (if g'= .nil then .nil else .sub) ((ys.take e).drop q))):=by rw[<-c1,AZ]
   rw[P]at J;simpa[FOper.pre,FOper.post]using J
  ·simp at H
 ·simp at H
theorem KS(h:AV.fits cs ds)(e:ds[k]?=some v)(x:AV):AV.owns (cs.set k x) ds=AV.owns (cs.take k) (ds.take k)++(x.own v++AV.owns (cs.drop (k+1)) (ds.drop (k+1))):=by
 have m:=AV.qao h;have r:k<ds.length:=(aU.1 e).1;have g:cs.set k x=cs.take k++(x::cs.drop (k+1)):=by rw[tO,aw (by omega)]
 have q:ds=ds.take k++(v::ds.drop (k+1)):=by
  have u:ds[k]=v:=(aU.1 e).2
  conv=>lhs;rw[<-List.take_append_drop k ds,dl r,u]
 rw[g]
 conv=>lhs;rw[q]
 rw[AV.qaT (by simp[m])];rfl
theorem Vv{l:aA}(h:l[k]?=some v):l.set k v=l:=by
 apply jG;intro j
 by_cases e:k=j
 ·subst e;rw[iz,h];simp
 ·rw[dK e]
theorem zv{v:DV}(h:l[k]?=some v):l.set k v=l:=by
 apply jG;intro j
 by_cases e:k=j
 ·subst e;rw[iz,h];simp
 ·rw[dK e]
theorem ZU(h:AV.fits cs ds){x:AV}(m:ds[k]?=some v)(r:x.fit v):AV.fits (cs.set k x) ds:=by
 refine(AV.qbl _ _).2 ⟨by simp[AV.qao h],fun i q u e g=> ?_⟩;have w:k<cs.length:=by rw[AV.qao h];exact(aU.1 m).1
 by_cases hi:i=k
 ·subst hi
  rw[iM w]at e;rw[m]at g;simp only[aL]at e g;subst e;subst g;exact r
 ·rw[dK (Ne.symm hi)]at e
  exact((AV.qbl _ _).1 h).2 i q u e g
theorem S8(a3:hZ X V lin){q:Nat}{b:VX}{d4:Nat}{f4:ae}(hl:(FOper.el d1 q d2 b d3 sz d4 f1 f2 f3 f4).pre.all (VOper.linOK T)=true)(h:Rel A0 T F p (sv.c+i) sx sv)
 (h1:bl X lin T draw L0 (FOper.el d1 q d2 b d3 sz d4 f1 f2 f3 f4).pre sx=some s1) (u:iu T (.el d1 q d2 b d3 sz d4 f1 f2 f3 f4) s1=some sx'):Gr A0 T F p V draw L0 i (.el d1 q d2 b d3 sz d4 f1 f2 f3 f4) sv sx':=by
 obtain⟨sv1,e1,R1,c1⟩:=mS a3 hl h h1;simp only[iu]at u;split at u
 ·rename_i bx off ik k k1 k2
  split at u
  ·rename_i hc
   obtain⟨⟨hd4,n1,n2,n3,n4,n5⟩,hk0,hz⟩:=hc;obtain⟨cs,q1,u⟩:=az.1 u;split at u
   ·rename_i g xs q2
    split at u
    ·rename_i I q3
     split at u
     ·rename_i hes
      simp only[aL]at u;subst u
      obtain⟨w,k4,kf⟩:=R1.regs q _ k1;simp only[AV.fit]at kf;subst kf
      obtain⟨w,k5,kf⟩:=R1.regs d2 _ k2;simp only[AV.fit,DV.fit]at kf;obtain⟨_,rfl,rfl⟩:=kf;obtain⟨ds,q4,P⟩:=R1.boxes.get q1;obtain⟨w,q5,qf⟩:=AV.qce P q2;have qf':=qf;simp only[AV.fit,DV.fit]at qf';obtain⟨_,rfl,g',ys,rfl,O,hg⟩:=qf';obtain⟨e',q6,ef⟩:=DV.qce O q3;have a1:=ef;simp only[DV.fit]at a1;obtain⟨e,rfl,R⟩:=a1;have h5:e.length=sz:=by rw[<-DV.qao R];exact hes
      have a2:lk sv1.r d3=some (.ep e):=by
       simp only[FOper.pre,cX,dh,aY,aK]at e1;obtain⟨t1,J,e3⟩:=az.1 e1;obtain⟨t2,e5,e6⟩:=az.1 e3;obtain⟨vb,e7,rfl⟩:=ay.1 e5;obtain⟨t3,e8,e9⟩:=az.1 e6;obtain⟨vc,G,rfl⟩:=ay.1 e8;simp only[aL]at e9;subst e9
       simp only[St.put]at J e3 e5 e7 G k4 k5 q4 q5⊢
       simp only[VX.get]at J;have H:∀(c:AV),t1={sv with r:=(d1,c)::sv.r}->lk sv.r q=some (.ptr bx off)/\t1.B=sv.B:=fun c hc=>by subst hc;simp only[lk,au (Ne.symm n3),au (Ne.symm n2),au (Ne.symm n1)]at k4;exact⟨k4,rfl⟩
       have h2:lk sv.r q=some (.ptr bx off):=by
        split at J
        ·obtain⟨v,_,M⟩:=ay.1 J;exact(H _ M.symm).1
        ·split at J
         ·simp at J
         ·obtain⟨v,_,M⟩:=ay.1 J;exact(H _ M.symm).1
        ·simp at J
       rw[h2]at J;simp only at J;split at J
       ·simp at J
       ·obtain⟨v,M,rfl⟩:=ay.1 J
        simp only[aP]at M;simp only at q4;rw[q4]at M;simp only[a9,bL,if_false]at M;rw[q5]at M;simp only[aL]at M;subst M
        simp only[lk,if_true,VX.get,au n4,au (Ne.symm n5)]at G k5⊢
        simp only[aL]at k5;subst k5
        simp only at G;rw[aw hk0,q6]at G;simp only[a9,DV.cells,h5]at G;rw[aw ⟨trivial,hz⟩]at G;exact G.symm
      have ev:cX V p draw L0 (i+3) [⟨some d4,.load true sz (.t d3),none,f4⟩] sv1=some (sv1.put (some d4) (.d (.agg e))):=by simp only[cX,dh,aY,VX.get,a2,cut,if_true];rw[aw (by omega),dE (by omega)];simp only[bH,a9]
      refine⟨_,by rw[sW,e1];exact ev,?_,by rw[Ad,c1]⟩;have hk:k.toNat<xs.length:=(aU.1 q3).1;have hb:bx<s1.B.length:=(aU.1 (jz.1 q1)).1;have c2:=wJ O (i:=k.toNat) (x:=(DV.agg I).clr) (DV.qcN _ _ ef);rw[zv q6]at c2;have b1:=ny O hk (DV.agg I).clr (.agg e);rw[zv q6,DV.qbL,dB]at b1;have b2:=ny O hk (DV.agg I) (.agg e);rw[zv q6,zv q3]at b2;have Z:sv1.B.set bx (some ds)=sv1.B:=by
       apply jG;intro j
       by_cases C:bx=j
       ·subst C;rw[iz,jz.1 q4];simp
       ·rw[dK C]
      have hnf:(AV.d (.sl g (xs.set k.toNat (DV.agg I).clr))).fit (.d (.sl g' ys)):=by simp only[AV.fit,DV.fit];exact⟨_,rfl,_,_,rfl,c2,by rw[lm];exact hg⟩
      have hcf:=ZU P q5 hnf;have h3:=R1.boxes.set bx hcf;rw[Z]at h3;have Q:=KS P q5 (.d (.sl g (xs.set k.toNat (DV.agg I).clr)));have D:=KS P q5 (.d (.sl g xs));rw[Vv q2]at D;simp only[AV.own,DV.own,lm]at Q D;rw[b1]at Q;rw[b2]at D;have K:bp s1.B sv1.B bx=AV.owns cs ds:=by unfold bp;rw[q1,q4]
      have S:bp (s1.B.set bx (some (cs.set off (.d (.sl g (xs.set k.toNat (DV.agg I).clr)))))) sv1.B bx=AV.owns (cs.set off (.d (.sl g (xs.set k.toNat (DV.agg I).clr)))) ds:=by unfold bp;rw[vH hb,q4]
      have h4:(AV.d (.agg I)).own (.d (.agg e))=DV.owns I e:=by simp[AV.own,DV.own]
      simp only[DV.own]at D;have N:=R1.held.nodup (.box bx);simp only[aI,K]at N;rw[D]at N;have Y:∀j,j∈DV.owns I e->j∉AV.owns (cs.set off (.d (.sl g (xs.set k.toNat (DV.agg I).clr)))) ds:=fun j C m=>by
       rw[Q]at m;obtain⟨u1,u2,u3⟩:=cJ.1 N;obtain⟨v1,v2,v3⟩:=cJ.1 u2;obtain⟨w1,w2,w3⟩:=cJ.1 v1;obtain⟨x1,x2,x3⟩:=cJ.1 w2;obtain⟨y1,y2,y3⟩:=cJ.1 x1;rcases bC.1 m with m|m
       ·exact u3 j m j (by simp[C]) rfl
       ·rcases bC.1 m with m|m
        ·rcases bC.1 m with m|m
         ·exact w3 j m j (by simp[C]) rfl
         ·rcases bC.1 m with m|m
          ·exact y3 j m j C rfl
          ·exact x3 j (by simp[C]) j m rfl
        ·exact v3 j (by simp[C]) j m rfl
      have W:=R1.over d4 (sx1:=⟨s1.r,s1.B.set bx (some (cs.set off (.d (.sl g (xs.set k.toNat (DV.agg I).clr)))))⟩) (.box bx) (a:= .d (.agg I)) (v:= .d (.agg e))
       R1.regs h3
       (fun ℓ=>by
        cases ℓ with
        |reg t=>exact co _
        |box j=>
         simp only[aI]
         by_cases C:j=bx
         ·subst C
          rw[K,S,D,Q];exact ig (co _) (ig (ig (co _) (ig (pC _ _) (co _))) (co _))
         ·rw[KO (fun he=>C he.symm)];exact co _)
       (fun t ht=>ht)
       (by simp only[AV.fit,DV.fit];exact⟨_,rfl,_,rfl,R⟩)
       (by
        rw[h4];obtain⟨u1,u2,u3⟩:=cJ.1 N;obtain⟨v1,v2,v3⟩:=cJ.1 u2;obtain⟨w1,w2,w3⟩:=cJ.1 v1;obtain⟨x1,x2,x3⟩:=cJ.1 w2;exact(cJ.1 x1).2.1)
       (fun j C=>by rw[h4]at C;simp only[aI];rw[K,S];exact⟨by rw[D];simp[C],Y j C⟩)
       (k':=sv.c+i+4) (by simp[FOper.pre]) sv.c
      have H:({(sv1.put (some d4) (.d (.agg e)))with c:=sv.c}:St)=sv1.put (some d4) (.d (.agg e)):=by rw[<-c1,AZ]
      rw[H]at W;simpa[FOper.pre,FOper.post]using W
     ·simp at u
    ·simp at u
   ·simp at u
  ·simp at u
 ·simp at u
theorem MG(e:hZ X V lin):∀{fs:eU} {i:Nat} {sx:XS} {sv:St},fs.all (fun f=>f.pre.all (VOper.linOK T))=true->Rel A0 T F p (sv.c+i) sx sv->fu X lin T draw L0 fs sx=some sx'->
 ∃m,cX V p draw L0 i (gQ fs) sv=some m/\Rel A0 T F p (sv.c+i+(gQ fs).length) sx' m/\m.c=sv.c
 | [],i,sx,sv,_,h,g=>by simp[fu]at g;subst g;exact⟨sv,rfl,h,rfl⟩
 |f::fs,i,sx,sv,r,h,g=>by
  simp only[gF,aQ]at r;simp only[fu]at g;obtain⟨s1,C,g⟩:=az.1 g;obtain⟨s2,u,g⟩:=az.1 g;have D:Gr A0 T F p V draw L0 i f sv s2:=by
   cases f with
   |one o=>
    simp only[iu,aL]at u;subst u
    obtain⟨v1,w,G,e3⟩:=mS e r.1 h C;exact⟨v1,by simpa[FOper.post]using w,by simpa[FOper.post]using G,e3⟩
   |sl d1 a d2 b d3 sz lo hi f1 f2 f3=>exact N4 e r.1 h C u
   |el d1 q d2 b d3 sz d4 f1 f2 f3 f4=>exact S8 e r.1 h C u
  obtain⟨v1,w,G,e3⟩:=D;obtain⟨J,K,H,I⟩:=MG e (i:=i+(f.pre++f.post).length) r.2 (by rw[e3,<-Nat.add_assoc];exact G) g;refine⟨J,?_,?_,by rw[I,e3]⟩
  ·simp only[gQ]
   rw[<-cr,sW,w];exact K
  ·simp only[gQ]
   rw[<-cr,ek (as:=f.pre++f.post),<-Nat.add_assoc];rw[e3,<-Nat.add_assoc]at H;exact H
theorem QB(g:hZ X V lin){fs:eU}(w:fs.all (fun f=>f.pre.all (VOper.linOK T))=true)(h:Rel A0 T F p sv.c sx sv)(m:jA X lin T draw na live fs sx=some sx'):
 ∃e,jb V p draw na live (gQ fs) sv=some e/\Rel A0 T F p e.c sx' e:=by
 unfold jA at m;split at m
 ·simp at m
 ·rename_i H
  obtain⟨s1,C,rfl⟩:=ay.1 m;have G:=h.more na;obtain⟨v1,q,u,D⟩:=MG g (i:=0) (sv:={sv with B:=sv.B++List.replicate na none}) w (by simpa using G) C;rw[h.boxes.1]at q;simp only at u D;refine⟨{v1 with r:=keep v1.r live,c:=sv.c+(gQ fs).length},by unfold jb;rw[au H,q];rfl,?_⟩;have:=(u.keep live).at (k':=sv.c+(gQ fs).length) (c':=sv.c+(gQ fs).length) (by omega);exact this
end
section
variable {A0:Ids} {T:ae} {F:Id->Prop} {p:Id} {sx sx':XS} {sv:St} {X:cq} {V:ct} {lin:Nat->ae} {draw:Bool} {L0 i:Nat}
theorem uQ(C:hZ X V lin)(n:Nat):∀(vc:VCode),vc.linOK T=true->∀sx sv e sx',Rel A0 T F p sv.c sx sv->bN X lin T n vc sx=some (e,sx')->∃G,bQ V p n vc sv=some (e,G)/\Rel A0 T F p G.c sx' G:=by
 intro vc
 induction vc with
 |ghost x c J=>intro m sx sv e sx' h g;simp only[VCode.linOK]at m;simp only[bN]at g;obtain⟨s1,w,q⟩:=az.1 g;obtain⟨v1,u,r⟩:=Ug h w;simp only[bQ,u,a9];exact J m _ _ _ _ r q
 |regionT na live pre tl=>
  intro m sx sv e sx' h g;simp only[VCode.linOK,aQ]at m;simp only[bN]at g;obtain⟨s1,w,q⟩:=ay.1 g;simp at q;obtain⟨rfl,rfl⟩:=q
  obtain⟨v1,u,r⟩:=YC C m.1 m.2 h w;exact⟨v1,by simp only[bQ,u,bH],r⟩
 |regionF draw na live fs=>
  intro m sx sv e sx' h g;simp only[VCode.linOK]at m;simp only[bN]at g;obtain⟨s1,w,q⟩:=ay.1 g;simp at q;obtain⟨rfl,rfl⟩:=q
  obtain⟨v1,u,r⟩:=QB C m h w;exact⟨v1,by simp only[bQ,u,bH],r⟩
 |skip=>intro _ sx sv e sx' h g;simp[bN]at g;obtain⟨rfl,rfl⟩:=g;exact⟨sv,rfl,h⟩
 |ret=>intro _ sx sv e sx' h g;simp[bN]at g;obtain⟨rfl,rfl⟩:=g;exact⟨sv,rfl,h⟩
 |exit id=>intro _ sx sv e sx' h g;simp[bN]at g;obtain⟨rfl,rfl⟩:=g;exact⟨sv,rfl,h⟩
 |seq a b H D=>
  intro m sx sv e sx' h g;simp only[VCode.linOK,aQ]at m;simp only[bN]at g;obtain⟨⟨K,s1⟩,w,q⟩:=az.1 g;obtain⟨v1,u,r⟩:=H m.1 _ _ _ _ h w;simp only[bQ,u,a9];cases K with
  |normal=>exact D m.2 _ _ _ _ r q
  |exit id=>simp at q;obtain⟨rfl,rfl⟩:=q;exact⟨v1,rfl,r⟩
  |ret=>simp at q;obtain⟨rfl,rfl⟩:=q;exact⟨v1,rfl,r⟩
 |region draw na live ops=>
  intro m sx sv e sx' h g;simp only[VCode.linOK]at m;simp only[bN]at g;obtain⟨s1,w,q⟩:=ay.1 g;simp at q;obtain⟨rfl,rfl⟩:=q
  obtain⟨v1,u,r⟩:=YI C m h w;exact⟨v1,by simp only[bQ,u,bH],r⟩
 |cond x a b H D=>
  intro m sx sv e sx' h g;simp only[VCode.linOK,aQ]at m;simp only[bN]at g;split at g
  ·rename_i hc
   obtain⟨v1,u,r⟩:=H m.1 _ _ _ _ h g;exact⟨v1,by simp only[bQ,h.getB hc,u],r⟩
  ·rename_i hc
   obtain⟨v1,u,r⟩:=D m.2 _ _ _ _ h g;exact⟨v1,by simp only[bQ,h.getB hc,u],r⟩
  ·simp at g
 |block id c J=>
  intro m sx sv e sx' h g;simp only[VCode.linOK]at m;simp only[bN]at g;obtain⟨⟨K,s1⟩,w,q⟩:=ay.1 g;obtain⟨v1,u,r⟩:=J m _ _ _ _ h w;simp only[bQ,u,bH];split at q
  ·rename_i I
   simp only at I;simp at q;obtain⟨rfl,rfl⟩:=q
   rw[aw I];exact⟨v1,rfl,r⟩
  ·rename_i I
   simp only at I;simp at q;obtain⟨rfl,rfl⟩:=q
   rw[au I];exact⟨v1,rfl,r⟩
 |loop live c J=>intro m sx sv e sx' h g;simp only[VCode.linOK]at m;simp only[bN]at g;simp only[bQ];rw[h.boxes.1]at g;exact qBi (fun sx sv e sx' h g=>J m sx sv e sx' h g) _ live n sx sv e sx' h g
end
end Go.Proofs.YtpcoohnjllclnaaGreat.VS
