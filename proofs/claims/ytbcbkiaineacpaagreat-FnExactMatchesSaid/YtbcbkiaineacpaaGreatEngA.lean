/- The engine, part 1: a call of the program answers what an evaluator of values without memory answers, for the functions whose code is the one that the evaluator is given. -/
import GoSem.Core.View
import GoSem.Op.String
import GoSem.Core.Utf8
import GoSem.Core.Code
import Derived.Calls
import Derived.Control
import GoSem.ClaimData
import Derived.Laws.Sem
import Derived.Laws.Cells
import Derived.Laws.World
import Derived.Laws.Entries
import Derived.Laws.CopyRow
import Derived.Laws.Rows
import Derived.Laws.Tables
import Derived.Laws.StructEq
set_option linter.unusedSimpArgs false
set_option linter.unusedVariables false
namespace Go.Proofs.YtbcbkiaineacpaaGreat.VS
theorem ya_{α β:Type _}{b:β}{x:Option α}{f:α->β}:Option.map f x=some b↔∃a,x=some a/\f a=b:=Option.map_eq_some_iff
theorem yb_{α β:Type _}{b:β}{x:Option α}{f:α->Option β}:x.bind f=some b↔∃a,x=some a/\f a=some b:=Option.bind_eq_some_iff
theorem yc_{α:Type _}{p:α->Prop}{a:α}{l:List α}:(∀x,x∈a::l->p x)↔p a/\∀x,x∈l->p x:=List.forall_mem_cons
theorem yd_{α:Type _}{l₁ l₂:List α}{i:Nat}(h:l₁.length<=i):(l₁++l₂)[i]?=l₂[i-l₁.length]?:=List.getElem?_append_right h
theorem ye_{α:Type _}{l₁ l₂:List α}{i:Nat}(h:i<l₁.length):(l₁++l₂)[i]?=l₁[i]?:=List.getElem?_append_left h
theorem yf_{α:Type _}{xs:Array α}{i:Nat}{d:α}:xs.getD i d=xs[i]?.getD d:=Array.getD_eq_getD_getElem?
theorem yg_{α:Type _}{as bs:List α}:(as++bs).length=as.length+bs.length:=List.length_append
theorem yh_{α:Type _}(as bs cs:List α):as++bs++cs=as++(bs++cs):=List.append_assoc as bs cs
abbrev Id:=List Nat
abbrev Ids:=Id->Bool
def Ids.none:Ids:=fun _=>false
def Ids.add(a:Id)(A:Ids):Ids:=fun x=>decide (x=a)||A x
def Ids.del(a:Id)(A:Ids):Ids:=fun x=> !decide (x=a)&&A x
def Ids.or(A A':Ids):Ids:=fun x=>A x||A' x
inductive Tag where
 |nil
 |sub
 |own (a:Id) (sz:Nat)
 deriving Inhabited,DecidableEq
inductive DV where
 |int (k:IntKind) (n:Int)
 |bool (b:Bool)
 |str (s:ByteArray)
 |agg (cs:List DV)
 |sl (g:Tag) (xs:List DV)
 |tup (vs:List DV)
 deriving Inhabited
inductive AV where
 |d (v:DV)
 |ptr (i off:Nat)
 |ep (cs:List DV)
 |nilp
 |fn (f:Nat) (cap:List AV)
 |bsl (id:Id) (agg:Bool) (i sz n:Nat)
 |tsl (agg:Bool) (i sz n:Nat)
 |ag (tup:Bool) (cs:List AV)
 |und
 deriving Inhabited
def DV.cells:DV->List DV
 | .agg cs=>cs
 |v=>[v]
def DV.isCell:DV->Bool
 | .agg _=>false
 | .tup _=>false
 |_=>true
def AV.cells:AV->List AV
 | .d (.agg cs)=>cs.map .d
 | .ag false cs=>cs
 |v=>[v]
def AV.isCell:AV->Bool
 | .d v=>v.isCell
 | .und=>false
 | .ag _ _=>false
 |_=>true
def AV.data:AV->Option DV
 | .d v=>some v
 |_=>none
def qaG:List AV->Option (List DV)
 | []=>some []
 | .d v::r=>(qaG r).map (v::·)
 |_=>none
abbrev qal:=List (Option (List AV))
def qcu(B:qal)(i:Nat):Option (List AV):=
 match B[i]? with
 |some (some cs)=>some cs
 |_=>none
def qcB(B:qal)(i:Nat):Bool:=
 match B[i]? with
 |some none=>true
 |_=>false
def AV.safe(m:Nat):AV->Bool
 | .d _| .ep _| .nilp| .und=>true
 | .ptr i _=>i<m
 | .fn _ cap=>safes cap
 | .bsl _ _ i _ _=>i<m
 | .tsl _ i _ _=>i<m
 | .ag _ cs=>safes cs
where safes:List AV->Bool
 | []=>true
 |a::r=>a.safe m&&safes r
inductive VX where
 |t (n:Nat)
 |c (v:AV)
inductive Conv where
 |kind (k:IntKind)
 |bytes
 |rune
inductive VOp where
 |move (x:VX)
 |pick (c a b:VX)
 |alloc (slot:Nat) (zero:List DV)
 |allocE (zero:List DV)
 |box (slot:Nat) (x:VX)
 |build (zero:List DV) (parts:List (Nat×Nat×VX))
 |buildSlice (sz:Nat) (zero:DV) (len:Nat) (parts:List (Nat×VX))
 |load (agg:Bool) (sz:Nat) (a:VX)
 |store (init:Bool) (sz:Nat) (a x:VX)
 |storeN (sz:Nat) (a x:VX) (av:List Nat)
 |nilCheck (x:VX)
 |bin (op:BinOp) (x y:VX)
 |eqAgg (neg:Bool) (ks:List Nat) (x y:VX)
 |eqB (neg:Bool) (x y:VX)
 |not (x:VX)
 |conv (c:Conv) (x:VX)
 |index (x i:VX)
 |indexAddr (sz:Nat) (arr:Option Nat) (x i:VX)
 |fieldAddr (off:Nat) (x:VX)
 |slice (str:Bool) (sz:Nat) (x:VX) (lo hi:Option VX)
 |makeFunc (f:Nat) (caps:List VX)
 |makeSlice (slot:Nat) (sz bytes:Nat) (zero:DV) (x:VX)
 |extract (x:VX) (i:Nat)
 |call (iso:Bool) (f:VX) (args:List VX)
 |callT (thaw:Bool) (f:VX) (args:List VX)
 |append (sz bytes:Nat) (x y:VX)
 |len (str:Bool) (x:VX)
 |fail
structure VOper where
 dst:Option Nat
 op:VOp
 guard:Option (Nat×Bool):=none
 after:List Nat:=[]
inductive FOper where
 |one (o:VOper)
 |sl (d1 a d2:Nat) (b:VX) (d3 sz:Nat) (lo hi:Option VX) (f1 f2 f3:List Nat)
 |el (d1 q d2:Nat) (b:VX) (d3 sz d4:Nat) (f1 f2 f3 f4:List Nat)
def FOper.pre:FOper->List VOper
 | .one o=>[o]
 | .sl d1 a d2 b _ _ _ _ f1 f2 _=>[⟨some d1,.move (.t a),none,f1⟩,⟨some d2,.move b,none,f2⟩]
 | .el d1 q d2 b d3 sz _ f1 f2 f3 _=>[⟨some d1,.load false 1 (.t q),none,f1⟩,⟨some d2,.move b,none,f2⟩,⟨some d3,.indexAddr sz none (.t d1) (.t d2),none,f3⟩]
def FOper.post:FOper->List VOper
 | .one _=>[]
 | .sl d1 _ _ _ d3 sz lo hi _ _ f3=>[⟨some d3,.slice false sz (.t d1) lo hi,none,f3⟩]
 | .el _ _ _ _ d3 sz d4 _ _ _ f4=>[⟨some d4,.load true sz (.t d3),none,f4⟩]
def qhR:List FOper->List VOper
 | []=>[]
 |f::fs=>f.pre++(f.post++qhR fs)
inductive VCode where
 |skip
 |ret
 |exit (id:Nat)
 |seq (a b:VCode)
 |region (draw:Bool) (na:Nat) (live:List Nat) (ops:List VOper)
 |cond (x:VX) (a b:VCode)
 |block (id:Nat) (c:VCode)
 |loop (live:List Nat) (c:VCode)
 |regionF (draw:Bool) (na:Nat) (live:List Nat) (fs:List FOper)
inductive VRes where
 |tmp (t:Nat)
 |cell (t:Nat) (agg:Bool) (sz:Nat)
structure VFn where
 np:Nat
 results:List VRes
 code:VCode
structure St where
 r:List (Nat×AV)
 B:qal
 A:Ids
 c:Nat
inductive Ex where
 |normal
 |exit (id:Nat)
 |ret
 deriving DecidableEq
structure Res where
 v:AV
 A:Ids
 B:qal
abbrev qaz:=Id->Nat->List AV->qal->Ids->Option Res
def lk:List (Nat×AV)->Nat->Option AV
 | [],_=>none
 |(t,v)::r,n=>if n=t then some v else lk r n
def VX.get(r:List (Nat×AV)):VX->Option AV
 | .t n=>lk r n
 | .c v=>some v
def cmp(op:BinOp)(x y:Int):Option Bool:=
 match op with
 | .eql=>some (x==y)
 | .neq=>some (x !=y)
 | .lss=>some (decide (x<y))
 | .leq=>some (decide (x<=y))
 | .gtr=>some (decide (x>y))
 | .geq=>some (decide (x>=y))
 |_=>none
def bits(op:BinOp)(k:IntKind)(x y:Int):Option Int:=
 let a:=BitVec.ofInt k.bits x
 let b:=BitVec.ofInt k.bits y
 match op with
 | .and=>some (k.wrap (a&&&b).toNat)
 | .or=>some (k.wrap (a|||b).toNat)
 | .xor=>some (k.wrap (a^^^b).toNat)
 | .andNot=>some (k.wrap (a&&& ~~~b).toNat)
 |_=>none
def qdN(op:BinOp)(k:IntKind)(x y:Int):Option DV:=
 match op with
 | .add=>some (.int k (k.wrap (x+y)))
 | .sub=>some (.int k (k.wrap (x-y)))
 | .mul=>some (.int k (k.wrap (x*y)))
 | .quo=>if y=0 then none else some (.int k (k.wrap (x.tdiv y)))
 | .rem=>if y=0 then none else some (.int k (x.tmod y))
 | .shl=>if y<0 then none else some (.int k (k.wrap (x*2^(min y.toNat k.bits))))
 | .shr=>if y<0 then none else some (.int k (x.fdiv (2^(min y.toNat k.bits))))
 | .and| .or| .xor| .andNot=>(bits op k x y).map (.int k)
 |_=>(cmp op x y).map .bool
def qfP(a b:ByteArray):Bool:=a.toList==b.toList
def qeM(op:BinOp)(a b:DV):Option DV:=
 match a,b with
 | .int k x,.int k' y=>
  match op with
  | .shl=>qdN .shl k x y
  | .shr=>qdN .shr k x y
  |_=>if k=k' then qdN op k x y else none
 | .str a,.str b=>
  match op with
  | .add=>if a.size+b.size<=4611686018427387904 then some (.str (a++b))else none
  | .eql=>some (.bool (qfP a b))
  | .neq=>some (.bool !(qfP a b))
  |_=>none
 |_,_=>none
def qbx:List Nat->List DV->List DV->Option Bool
 | [],[],[]=>some true
 |0::ks,.int k x::r,.int k' y::r'=>if k=k' then(if x==y then qbx ks r r' else(qbx ks r r').map fun _=>false)else none
 |1::ks,.bool x::r,.bool y::r'=>if x==y then qbx ks r r' else(qbx ks r r').map fun _=>false
 |2::ks,.str x::r,.str y::r'=>if qfP x y then qbx ks r r' else(qbx ks r r').map fun _=>false
 |_,_,_=>none
def splice{α:Type}(cs:List α)(off:Nat)(new:List α):List α:=cs.take off++new++cs.drop (off+new.length)
def qaI(g:VX->Option AV)(cs:List DV):List (Nat×Nat×VX)->Option (List DV)
 | []=>some cs
 |(off,size,x)::r=>
  match g x with
  |some (.d v)=>if v.cells.length=size/\off+size<=cs.length/\v.cells.all DV.isCell then qaI g (splice cs off v.cells) r else none
  |_=>none
def qaX(g:VX->Option AV)(sz:Nat)(xs:List DV):List (Nat×VX)->Option (List DV)
 | []=>some xs
 |(i,x)::r=>
  match g x with
  |some (.d v)=>if v.cells.length=sz/\i<xs.length/\v.cells.all DV.isCell then qaX g sz (xs.set i v) r else none
  |_=>none
def qlQ(s:ByteArray)(i:Nat):Option Int:=(s[i]?).map fun b=>(b.toNat:Int)
def bytesOf:List DV->Option (List UInt8)
 | []=>some []
 | .int .u8 n::r=>(bytesOf r).map (UInt8.ofNat n.toNat::·)
 |_=>none
def qgE(r:List (Nat×AV)):List VX->Option (List AV)
 | []=>some []
 |x::xs=>(x.get r).bind fun v=>(qgE r xs).map (v::·)
def cut(agg:Bool)(sz:Nat)(cs:List DV):Option DV:=
 if agg then(if sz<=cs.length then some (.agg (cs.take sz))else none)else cs[0]?
def qmg(v:AV):Option Int:=
 match v with
 | .d (.int _ n)=>some n
 |_=>none
def qbV(len:Nat)(hi:Option AV):Option Nat:=
 match hi with
 |none=>some len
 |some v=>(qmg v).bind fun h=>if 0<=h/\h.toNat<=len then some h.toNat else none
def qbU(h:Nat)(lo:Option AV):Option Nat:=
 match lo with
 |none=>some 0
 |some v=>(qmg v).bind fun l=>if 0<=l/\l.toNat<=h then some l.toNat else none
def qhO(r:List (Nat×AV)):Option VX->Option (Option AV)
 |none=>some none
 |some x=>(x.get r).map some
def evP(r:List (Nat×AV)):VOp->Option AV
 | .move x=>x.get r
 | .pick c a b=>
  match c.get r with
  |some (.d (.bool true))=>a.get r
  |some (.d (.bool false))=>b.get r
  |_=>none
 | .build zero parts=>(qaI (VX.get r) zero parts).map fun cs=> .d (.agg cs)
 | .nilCheck x=>
  match x.get r with
  |some (.ptr i o)=>some (.ptr i o)
  |some (.ep cs)=>some (.ep cs)
  |some (.fn f c)=>some (.fn f c)
  |_=>none
 | .bin op x y=>
  match x.get r,y.get r with
  |some (.d a),some (.d b)=>(qeM op a b).map .d
  |_,_=>none
 | .eqAgg neg ks x y=>
  match x.get r,y.get r with
  |some (.d (.agg a)),some (.d (.agg b))=>(qbx ks a b).map fun e=> .d (.bool (if neg then !e else e))
  |_,_=>none
 | .eqB neg x y=>
  match x.get r,y.get r with
  |some (.d (.bool a)),some (.d (.bool b))=>some (.d (.bool (if neg then !(a==b)else(a==b))))
  |_,_=>none
 | .not x=>
  match x.get r with
  |some (.d (.bool b))=>some (.d (.bool !b))
  |_=>none
 | .conv (.kind k) x=>
  match x.get r with
  |some (.d (.int _ n))=>some (.d (.int k (k.wrap n)))
  |_=>none
 | .conv .rune x=>
  match x.get r with
  |some (.d (.int _ n))=>some (.d (.str (Utf8.encode n)))
  |_=>none
 | .conv .bytes x=>
  match x.get r with
  |some (.d (.sl _ xs))=>(bytesOf xs).map fun bs=> .d (.str ⟨bs.toArray⟩)
  |_=>none
 | .index x i=>
  match x.get r,i.get r with
  |some (.d (.str s)),some (.d (.int _ n))=>if 0<=n then(qlQ s n.toNat).map fun b=> .d (.int .u8 b)else none
  |_,_=>none
 | .indexAddr sz none x i=>
  match x.get r,i.get r with
  |some (.d (.sl _ xs)),some (.d (.int _ n))=>
   if 0<=n then(xs[n.toNat]?).bind fun e=>if e.cells.length=sz/\sz≠0 then some (.ep e.cells)else none else none
  |some (.bsl _ _ b sz' m),some (.d (.int _ n))=>
   if sz'=sz/\0<=n/\n<m then some (.ptr b (n.toNat*sz))else none
  |some (.tsl _ b sz' m),some (.d (.int _ n))=>
   if sz'=sz/\0<=n/\n<m then some (.ptr b (n.toNat*sz))else none
  |_,_=>none
 | .indexAddr sz (some m) x i=>
  match x.get r,i.get r with
  |some (.ptr b o),some (.d (.int _ n))=>if 0<=n/\n<m then some (.ptr b (o+n.toNat*sz))else none
  |some (.ep cs),some (.d (.int _ n))=>if 0<=n/\n<m/\n.toNat*sz<=cs.length then some (.ep (cs.drop (n.toNat*sz)))else none
  |_,_=>none
 | .fieldAddr off x=>
  match x.get r with
  |some (.ptr b o)=>some (.ptr b (o+off))
  |some (.ep cs)=>if off<=cs.length then some (.ep (cs.drop off))else none
  |_=>none
 | .slice true _ x lo hi=>
  match x.get r,qhO r lo,qhO r hi with
  |some (.d (.str s)),some lo,some hi=>
   (qbV s.size hi).bind fun h=>(qbU h lo).map fun l=> .d (.str (s.extract l h))
  |_,_,_=>none
 | .slice false sz x lo hi=>
  match x.get r,qhO r lo,qhO r hi with
  |some (.d (.sl g xs)),some lo,some hi=>
   if xs.all (fun e=>e.cells.length=sz)then(qbV xs.length hi).bind fun h=>(qbU h lo).map fun l=> .d (.sl (if g= .nil then .nil else .sub) ((xs.take h).drop l))else none
  |_,_,_=>none
 | .makeFunc f caps=>(qgE r caps).map fun vs=> .fn f vs
 | .extract x i=>
  match x.get r with
  |some (.d (.tup vs))=>(vs[i]?).map .d
  |some (.ag true vs)=>vs[i]?
  |_=>none
 | .len true x=>
  match x.get r with
  |some (.d (.str s))=>some (.d (.int .i64 s.size))
  |_=>none
 | .len false x=>
  match x.get r with
  |some (.d (.sl _ xs))=>some (.d (.int .i64 xs.length))
  |some (.bsl _ _ _ _ n)=>some (.d (.int .i64 n))
  |some (.tsl _ _ _ n)=>some (.d (.int .i64 n))
  |_=>none
 |_=>none
def AV.plainT:AV->Bool
 | .d (.int _ _)=>true
 | .d (.bool _)=>true
 | .d (.str _)=>true
 | .d (.sl _ [])=>true
 | .tsl _ _ _ _=>true
 |_=>false
def qiP(cs:List AV)(ds:Option (List DV)):Option AV:=
 match ds with
 |some ds=>some (.d (.agg ds))
 |none=>if cs.all AV.plainT then some (.ag false cs)else none
def qak(B:qal)(agg:Bool)(sz i off:Nat):Option AV:=
 (qcu B i).bind fun cs=>
  if agg then(if off+sz<=cs.length then qiP ((cs.drop off).take sz) (qaG ((cs.drop off).take sz))else none)else cs[off]?
def St.put(s:St)(dst:Option Nat)(v:AV):St:=
 match dst with
 |some d=>{s with r:=(d,v)::s.r}
 |none=>s
def qdi(s:St)(sz i off:Nat)(v:AV):Option St:=
 (qcu s.B i).bind fun cs=>
  if v.cells.length=sz/\off+sz<=cs.length/\v.cells.all AV.isCell/\v.safe i then
   some {s with B:=s.B.set i (some (splice cs off v.cells))}
  else none
def qdV(s:St)(new:Id)(sz bytes:Nat)(x y:DV):Option (AV×St):=
 match x,y with
 | .sl g xs,.sl _ ys=>
  if ys.all (fun e=>e.cells.length=sz/\e.cells.all DV.isCell)then
   if ys.isEmpty then some (.d (.sl g xs),s)
   else if(xs.length+ys.length)*bytes<=140737488355328 then
    match g with
    | .nil=>some (.d (.sl (.own new sz) ys),{s with A:=Ids.add new s.A})
    | .own a sz'=>
     if xs.isEmpty then some (.d (.sl (.own new sz) ys),{s with A:=Ids.add new s.A})
     else if sz'=sz/\s.A a=true then some (.d (.sl (.own new sz) (xs++ys)),{s with A:=Ids.add new (Ids.del a s.A)})else none
    | .sub=>none
   else none
  else none
 |_,_=>none
def chunks(agg:Bool)(sz:Nat):Nat->List DV->Option (List DV)
 |0,_=>some []
 |n+1,cs=>(cut agg sz cs).bind fun v=>if v.cells.length=sz/\v.cells.all DV.isCell then(chunks agg sz n (cs.drop sz)).map (v::·)else none
def qiK(f:AV->Option DV):List AV->Option (List DV)
 | []=>some []
 |v::r=>(f v).bind fun d=>(qiK f r).map (d::·)
def AV.frzC(B:qal):Nat->AV->Option DV
 |_,.d v=>some v
 |n+1,.tsl agg i sz m=>(qcu B i).bind fun cs=>(qiK (AV.frzC B n) cs).bind fun ds=>if ds.length=m*sz then(chunks agg sz m ds).map fun xs=> .sl .sub xs else none
 |_,_=>none
def AV.frz(B:qal):AV->Option DV
 | .ag false cs=>(qiK (AV.frzC B B.length) cs).bind fun ds=>if ds.all DV.isCell then some (.agg ds)else none
 |v=>v.frzC B B.length
def qtH:DV->Bool
 | .agg _=>true
 |_=>false
mutual
def thw(b:Nat):DV->List AV×qal
 | .agg cs=>qeZ b cs
 | .sl g []=>([.d (.sl g [])],[])
 | .sl _ (x::xs)=>
  let r:=qeZ b (x::xs)
  ([.tsl (qtH x) (b+r.2.length) x.cells.length (xs.length+1)],r.2++[some r.1])
 | .tup vs=>([.d (.tup vs)],[])
 | .int k n=>([.d (.int k n)],[])
 | .bool v=>([.d (.bool v)],[])
 | .str v=>([.d (.str v)],[])
def qeZ(b:Nat):List DV->List AV×qal
 | []=>([],[])
 |v::r=>
  let p:=thw b v
  let q:=qeZ (b+p.2.length) r
  (p.1++q.1,p.2++q.2)
end
def qaV(b:Nat)(v:DV):AV×qal:=
 match v with
 | .agg cs=>(.ag false (qeZ b cs).1,(qeZ b cs).2)
 |v=>((thw b v).1.headD .und,(thw b v).2)
def qbG(b:Nat):List DV->List AV×qal
 | []=>([],[])
 |v::r=>
  let p:=qaV b v
  let q:=qbG (b+p.2.length) r
  (p.1::q.1,p.2++q.2)
def DV.thaw(b:Nat)(v:DV):AV×qal:=
 match v with
 | .tup vs=>(.ag true (qbG b vs).1,(qbG b vs).2)
 |v=>qaV b v
mutual
def DV.names:DV->Option (List Id)
 | .sl _ []=>some []
 | .sl (.own a _) (x::xs)=>(DV.namess (x::xs)).map (·++[a])
 | .sl _ (_::_)=>none
 | .agg cs=>DV.namess cs
 | .tup _=>none
 | .int _ _=>some []
 | .bool _=>some []
 | .str _=>some []
def DV.namess:List DV->Option (List Id)
 | []=>some []
 |v::r=>(v.names).bind fun l=>(DV.namess r).map (l++·)
end
def DV.namesT:DV->Option (List Id)
 | .tup vs=>DV.namess vs
 |v=>v.names
def qGa(thaw:Bool)(s:St)(dst:Option Nat)(v:DV)(A:Ids):Option St:=
 (v.namesT).bind fun l=>
  if l.Nodup/\l.all A=true then
   some (if thaw then{s with B:=s.B++(v.thaw s.B.length).2}.put dst (v.thaw s.B.length).1 else{s with A:=Ids.or A s.A}.put dst (.d v))
  else none
def qbJ(draw init:Bool)(L0 b:Nat):Bool:=draw&&(if init then decide (b<L0)else decide (L0<=b))
def qcP(r:List (Nat×AV))(b:Nat)(av:List Nat):Bool:=av.all fun t=>match lk r t with
 |some (.ptr b' _)=>b' !=b
 |_=>false
def qbv(call:qaz)(p:Id)(draw:Bool)(L0 i:Nat)(o:VOper)(s:St):Option St:=
 match o.op with
 | .alloc k zero=>
  if qcB s.B (L0+k)/\zero.all DV.isCell then some ({s with B:=s.B.set (L0+k) (some (zero.map .d))}.put o.dst (.ptr (L0+k) 0))else none
 | .allocE zero=>
  if draw=false/\zero.all DV.isCell then some ({s with B:=s.B++[some (zero.map AV.d)]}.put o.dst (.ptr s.B.length 0))else none
 | .box k x=>
  (x.get s.r).bind fun v=>
   if qcB s.B (L0+k)/\v.cells.all AV.isCell/\v.safe (L0+k)then
    some ({s with B:=s.B.set (L0+k) (some v.cells)}.put o.dst (.ptr (L0+k) 0))
   else none
 | .makeSlice k sz bytes zero x=>
  match x.get s.r with
  |some (.d (.int _ n))=>
   if draw=false/\qcB s.B (L0+k)/\0<=n/\n.toNat*bytes<=140737488355328/\n<9223372036854775808/\zero.cells.length=sz/\zero.cells.all DV.isCell then
    some ({s with B:=s.B.set (L0+k) (some (((List.replicate n.toNat zero).flatMap DV.cells).map .d))}.put o.dst
     (.bsl ((s.c+i)::p) (match zero with| .agg _=>true|_=>false) (L0+k) sz n.toNat))
   else none
  |_=>none
 | .load agg sz a=>
  match a.get s.r with
  |some (.ep cs)=>(cut agg sz cs).map fun v=>s.put o.dst (.d v)
  |some (.ptr b off)=>if draw/\L0<=b then none else(qak s.B agg sz b off).map fun v=>s.put o.dst v
  |_=>none
 | .store init sz a x=>
  match a.get s.r,x.get s.r with
  |some (.ptr b off),some v=>
   if qbJ draw init L0 b then none else(qdi s sz b off v).map fun s=>s.put o.dst .und
  |_,_=>none
 | .storeN sz a x av=>
  match a.get s.r,x.get s.r with
  |some (.ptr b off),some v=>
   if qbJ draw false L0 b|| !qcP s.r b av then none else(qdi s sz b off v).map fun s=>s.put o.dst .und
  |_,_=>none
 | .buildSlice sz zero len parts=>
  if zero.cells.length=sz/\zero.cells.all DV.isCell/\len*sz<=16777216/\len<=16777216 then
   (qaX (VX.get s.r) sz (List.replicate len zero) parts).map fun xs=>
    {s with A:=Ids.add ((s.c+i)::p) s.A}.put o.dst (.d (.sl (.own ((s.c+i)::p) sz) xs))
  else none
 | .append sz bytes x y=>
  match x.get s.r,y.get s.r with
  |some (.d v),some (.d w)=>(qdV s ((s.c+i)::p) sz bytes v w).map fun(v,s)=>s.put o.dst v
  |_,_=>none
 | .call iso f args=>
  match f.get s.r,qgE s.r args with
  |some (.fn k caps),some vs=>
   if iso then
    match qaG vs,caps with
    |some _,[]=>
     match call ((s.c+i)::p) k vs [] Ids.none with
     |some {v:= .d v,A,B:=_}=>some ({s with A:=Ids.or A s.A}.put o.dst (.d v))
     |_=>none
    |_,_=>none
   else
    match call ((s.c+i)::p) k (vs++caps) s.B s.A with
    |some {v,A,B}=>some ({s with A:=A,B:=B}.put o.dst v)
    |none=>none
  |_,_=>none
 | .callT thaw f args=>
  match f.get s.r,qgE s.r args with
  |some (.fn k []),some vs=>
   if draw=false\/thaw=false then
    (qiK (AV.frz s.B) vs).bind fun ds=>
     match call ((s.c+i)::p) k (ds.map .d) [] Ids.none with
     |some {v:= .d v,A,B:=_}=>qGa thaw s o.dst v A
     |_=>none
   else none
  |_,_=>none
 |op=>(evP s.r op).map fun v=>s.put o.dst v
def qcI(r:List (Nat×AV)):Option (Nat×Bool)->Option Bool
 |none=>some true
 |some (t,want)=>
  match lk r t with
  |some (.d (.bool b))=>some (b==want)
  |some .und=>some false
  |_=>none
def qcQ(call:qaz)(p:Id)(draw:Bool)(L0:Nat):Nat->List VOper->St->Option St
 |_,[],s=>some s
 |i,o::os,s=>
  match qcI s.r o.guard with
  |some true=>(qbv call p draw L0 i o s).bind (qcQ call p draw L0 (i+1) os)
  |some false=>qcQ call p draw L0 (i+1) os (s.put o.dst .und)
  |none=>none
def keep(r:List (Nat×AV)):List Nat->List (Nat×AV)
 | []=>[]
 |t::ts=>
  match lk r t with
  |some v=>(t,v)::keep r ts
  |none=>keep r ts
def qab(m:Nat):List (Nat×AV)->Bool
 | []=>true
 |(_,v)::r=>v.safe m&&qab m r
def dd:List Nat->List Nat
 | []=>[]
 |x::l=>if(dd l).contains x then dd l else x::dd l
theorem qw3(x:Nat):∀l:List Nat,x∈dd l↔x∈l
 | []=>Iff.rfl
 |y::l=>by
  simp only[dd];split
  ·rename_i h
   rw[qw3 x l,List.mem_cons];constructor
   ·exact .inr
   ·rintro(rfl|h')
    ·exact(qw3 x l).1 (by simpa using h)
    ·exact h'
  ·rw[List.mem_cons,List.mem_cons,qw3 x l]
def qdW:List VOper->List (List Nat)->List (List Nat)
 | [],acc=>acc
 |o::os,acc=>qdW os (acc++[dd (o.after.flatMap fun j=>j::acc.getD j [])])
inductive Kind where
 |pure|read|room|init|row|app|iso|eff
 deriving DecidableEq
def VOp.kind:VOp->Kind
 | .load _ _ _=> .read
 | .alloc _ _| .box _ _=> .room
 | .store init _ _ _=>if init then .init else .eff
 | .storeN _ _ _ _=> .eff
 | .buildSlice _ _ _ _=> .row
 | .append _ _ _ _=> .app
 | .call iso _ _=>if iso then .iso else .eff
 | .makeSlice _ _ _ _ _=> .eff
 | .callT _ _ _=> .eff
 | .allocE _=> .eff
 |_=> .pure
def Kind.meet:Kind->Kind->Bool
 | .pure,_|_,.pure=>true
 | .eff,_|_,.eff=>false
 | .init,.room| .room,.init| .init,.init=>false
 | .app,.row| .row,.app| .app,.app| .app,.iso| .iso,.app=>false
 |_,_=>true
def VX.tmps:VX->List Nat
 | .t n=>[n]
 | .c _=>[]
def VOp.tmps:VOp->List Nat
 | .move x| .box _ x| .load _ _ x| .nilCheck x| .not x| .conv _ x| .fieldAddr _ x| .extract x _| .len _ x| .makeSlice _ _ _ _ x=>x.tmps
 | .pick a b c=>a.tmps++b.tmps++c.tmps
 | .alloc _ _| .allocE _| .fail=>[]
 | .build _ ps=>ps.flatMap fun q=>q.2.2.tmps
 | .buildSlice _ _ _ ps=>ps.flatMap fun q=>q.2.tmps
 | .storeN _ a x av=>a.tmps++x.tmps++av
 | .store _ _ a x| .bin _ a x| .eqAgg _ _ a x| .eqB _ a x| .index a x| .indexAddr _ _ a x| .append _ _ a x=>a.tmps++x.tmps
 | .slice _ _ x lo hi=>x.tmps++(lo.toList++hi.toList).flatMap VX.tmps
 | .makeFunc _ cs=>cs.flatMap VX.tmps
 | .call _ f as=>f.tmps++as.flatMap VX.tmps
 | .callT _ f as=>f.tmps++as.flatMap VX.tmps
def VOper.looks(o:VOper):List Nat:=o.op.tmps++(match o.guard with|some (t,_)=>[t]|none=>[])
def qeB(a b:VOper):Bool:=
 match a.dst with
 |some t=> !(b.looks.contains t)&& !(b.dst==some t)
 |none=>true
def qIY:VOp->VOp->Bool
 | .load _ _ (.t x),.storeN _ _ _ av=>av.contains x
 | .storeN _ _ _ av,.load _ _ (.t x)=>av.contains x
 |_,_=>false
def qwU(cl:List (List Nat))(i j:Nat)(a b:VOper):Bool:=
 (cl.getD j []).contains i||((a.op.kind.meet b.op.kind||qIY a.op b.op)&&qeB a b&&qeB b a)
def qov(cl:List (List Nat))(i:Nat)(a:VOper):Nat->List VOper->Bool
 |_,[]=>true
 |j,b::r=>qwU cl i j a b&&qov cl i a (j+1) r
def qjW(cl:List (List Nat)):Nat->List VOper->Bool
 |_,[]=>true
 |i,a::r=>qov cl i a (i+1) r&&qjW cl (i+1) r
def ahead:Nat->List VOper->Bool
 |_,[]=>true
 |i,o::r=>o.after.all (fun j=>decide (j<i))&&ahead (i+1) r
def qlI(ops:List VOper):Bool:=ahead 0 ops&&qjW (qdW ops []) 0 ops
structure SFn where
 np:Nat
 pre:VCode
 rest:VCode
 results:List VRes
 row:Nat
 cond:Nat
 srt:Nat
 cmp:Nat
structure Env where
 code:Nat->Option VFn
 nat:Nat->Option (Id->List AV->Option (DV×Ids))
 spec:Nat->Option SFn:=fun _=>none
def qqY(L1:Nat)(live:List Nat)(s:St):Option St:=
 let r:=keep s.r live
 if qab L1 r/\L1<=s.B.length then some {s with r:=r,B:=s.B.take L1}else none
def qls(f:St->Option (Ex×St))(L1:Nat)(live:List Nat):Nat->St->Option (Ex×St)
 |0,_=>none
 |n+1,s=>
  (qqY L1 live s).bind fun s0=>
   (f s0).bind fun r=>
    match r.1 with
    | .normal=>qls f L1 live n r.2
    |_=>some r
def qcx(call:qaz)(p:Id)(draw:Bool)(na:Nat)(live:List Nat)(ops:List VOper)(s:St):Option St:=
 if draw&& !qlI ops then none
 else(qcQ call p draw s.B.length 0 ops {s with B:=s.B++List.replicate na none}).map fun s'=>{s' with r:=keep s'.r live,c:=s.c+ops.length}
def qaP(call:qaz)(p:Id)(n:Nat):VCode->St->Option (Ex×St)
 | .skip,s=>some (.normal,s)
 | .ret,s=>some (.ret,s)
 | .exit id,s=>some (.exit id,s)
 | .seq a b,s=>
  (qaP call p n a s).bind fun r=>
   match r.1 with
   | .normal=>qaP call p n b r.2
   |_=>some r
 | .region draw na live ops,s=>(qcx call p draw na live ops s).map fun s'=>(.normal,s')
 | .cond x a b,s=>
  match x.get s.r with
  |some (.d (.bool true))=>qaP call p n a s
  |some (.d (.bool false))=>qaP call p n b s
  |_=>none
 | .block id c,s=>
  (qaP call p n c s).map fun r=>if r.1= .exit id then(.normal,r.2)else r
 | .loop live c,s=>qls (qaP call p n c) s.B.length live n s
 | .regionF draw na live fs,s=>(qcx call p draw na live (qhR fs) s).map fun s'=>(.normal,s')
def qki(s:St):VRes->Option AV
 | .tmp t=>lk s.r t
 | .cell t agg sz=>
  match lk s.r t with
  |some (.ptr i off)=>qak s.B agg sz i off
  |_=>none
def qfX(s:St):List VRes->Option (List AV)
 | []=>some []
 |x::xs=>(qki s x).bind fun v=>(qfX s xs).map (v::·)
def finish(L:Nat)(p:Id)(s:St)(rs:List VRes):Option Res:=
 match qfX s rs with
 |some [.d v]=>some ⟨.d v,s.A,s.B.take L⟩
 |some [.ptr i off]=>some ⟨.ptr i off,s.A,s.B⟩
 |some [.bsl _ agg i sz n]=>
  if L<=i/\n<9223372036854775808 then
   ((qcu s.B i).bind qaG).bind fun cs=>if cs.length=n*sz then(chunks agg sz n cs).map fun xs=>⟨.d (.sl (.own (s.c::p) sz) xs),Ids.add (s.c::p) s.A,s.B.take L⟩else none
  else none
 |some [_]=>none
 |some vs=>(qaG vs).map fun ds=>⟨.d (.tup ds),s.A,s.B.take L⟩
 |none=>none
def qao:Nat->List AV->List (Nat×AV)
 |_,[]=>[]
 |i,v::r=>(i,v)::qao (i+1) r
def DV.flat:DV->Bool
 | .int _ _=>true
 | .bool _=>true
 | .str _=>true
 | .sl _ []=>true
 |_=>false
def qnW(call:qaz)(p:Id)(sf:SFn)(A:Ids)(a:Id)(x:DV)(xr:List DV):Option (List DV×Ids):=
 (DV.namess (x::xr)).bind fun l=>
  if A a=true/\l.all A=true/\l.contains a=false then
   match call p sf.srt [.tsl true 0 x.cells.length (xr.length+1),.fn sf.cmp []] [some (((x::xr).flatMap DV.cells).map .d)] (fun b=>l.contains b)with
   |some ⟨_,A2,[some cs]⟩=>(qaG cs).bind fun es=>if es.length=(xr.length+1)*x.cells.length then(chunks true x.cells.length (xr.length+1) es).map fun ys=>(ys,Ids.add a A2)else none
   |_=>none
  else none
def qmz(s:St):Option (DV×DV):=
 match lk s.r 3,lk s.r 4,s.B with
 |some (.ptr 0 0),some (.ptr 1 0),[some [.d x0,.d x1,_],some [.d z0,.d z1,.d z2]]=>
  if x0.flat&&x1.flat&&z0.flat&&z1.flat&&z2.flat&&x0.isCell&&x1.isCell then some (x0,x1)else none
 |_,_,_=>none
def qpH(call:qaz)(n:Nat)(p:Id)(sf:SFn)(ds:List DV):Option (DV×Ids):=
 if ds.length≠sf.np then none else
  (qaP call p n sf.pre ⟨qao 0 (ds.map .d),[],Ids.none,0⟩).bind fun r=>
   match r.1,lk r.2.r sf.cond,lk r.2.r sf.row with
   | .normal,some (.d (.bool true)),some (.d (.sl (.own a sz) (x::xr)))=>
    (qmz r.2).bind fun y=>(qnW call ((r.2.c+1)::p) sf r.2.A a x xr).map fun q=>(.agg [y.1,y.2,.sl (.own a sz) q.1],q.2)
   | .normal,some (.d (.bool false)),_| .normal,some (.d (.bool true)),some (.d (.sl _ []))=>
    (qaP call p n sf.rest r.2).bind fun r2=>
     match r2.1 with
     | .exit _=>none
     |_=>(finish 0 p r2.2 sf.results).bind fun q=>match q.v with
      | .d v=>some (v,q.A)
      |_=>none
   |_,_,_=>none
def qeN(E:Env):Nat->qaz
 |0,_,_,_,_,_=>none
 |n+1,p,f,args,B,A=>
  match E.nat f with
  |some g=>(qaG args).bind fun _=>(g p args).map fun r=>⟨.d r.1,Ids.or r.2 A,B⟩
  |none=>
   match E.code f with
   |none=>
    match E.spec f with
    |none=>none
    |some sf=>(qaG args).bind fun ds=>(qpH (qeN E n) n p sf ds).map fun r=>⟨.d r.1,Ids.or r.2 A,B⟩
   |some vf=>
    if args.length≠vf.np then none else(qaP (qeN E n) p n vf.code ⟨qao 0 args,B,A,0⟩).bind fun r=>
     match r.1 with
     | .exit _=>none
     |_=>finish B.length p r.2 vf.results
def qBD(R0 c1 c2 c3:VCode)(srt cmp:Nat):VFn:=⟨2,[.cell 4 true 3],.seq R0 (.seq c1 (.seq c2 (.seq
 (.seq c3 (.cond (.t 42) (.region false 0 [3,4,5] [⟨some 43,.move (.t 5),none,[]⟩,⟨some 44,.call false (.c (.fn srt [])) [.t 43,.c (.fn cmp [])],none,[]⟩]) .skip))
 (.seq (.region false 0 [3,4] [⟨some 45,.move (.t 5),none,[]⟩,⟨some 46,.fieldAddr 2 (.t 3),none,[]⟩,⟨none,.store false 1 (.t 46) (.t 45),none,[]⟩])
 (.seq (.region false 0 [4] [⟨some 47,.load true 3 (.t 3),none,[]⟩,⟨none,.store false 3 (.t 4) (.t 47),none,[]⟩]) .ret)))))⟩
def qfF(R0 c1 c2 c3:VCode)(srt cmp:Nat):SFn:=⟨2,.seq R0 (.seq c1 (.seq c2 c3)),
 .seq (.cond (.t 42) (.region false 0 [3,4,5] [⟨some 43,.move (.t 5),none,[]⟩,⟨some 44,.call false (.c (.fn srt [])) [.t 43,.c (.fn cmp [])],none,[]⟩]) .skip)
 (.seq (.region false 0 [3,4] [⟨some 45,.move (.t 5),none,[]⟩,⟨some 46,.fieldAddr 2 (.t 3),none,[]⟩,⟨none,.store false 1 (.t 46) (.t 45),none,[]⟩])
 (.seq (.region false 0 [4] [⟨some 47,.load true 3 (.t 3),none,[]⟩,⟨none,.store false 3 (.t 4) (.t 47),none,[]⟩]) .ret)),[.cell 4 true 3],5,42,srt,cmp⟩
def qD5:List (Nat×SFn)->Nat->Option SFn
 | [],_=>none
 |(k,v)::r,n=>if n=k then some v else qD5 r n
theorem qlt:∀{l:List (Nat×SFn)} {k:Nat} {v:SFn},qD5 l k=some v->(k,v)∈l
 | [],_,_,h=>by simp[qD5]at h
 |(a,u)::r,k,v,h=>by
  simp only[qD5]at h;split at h
  ·rename_i hk
   simp at h;subst h;subst hk;simp
  ·exact List.mem_cons_of_mem _ (qlt h)
end Go.Proofs.YtbcbkiaineacpaaGreat.VS
namespace Go.Proofs.YtbcbkiaineacpaaGreat.VS
open Classical
def CLe(c c':qaz):Prop:=∀p f as B O r,c p f as B O=some r->c' p f as B O=some r
def FLe{σ τ:Type}(f g:σ->Option τ):Prop:=∀s r,f s=some r->g s=some r
theorem qET{c c':qaz}(h:CLe c c')(p:Id)(draw:Bool)(L0 i:Nat)(o:VOper):FLe (qbv c p draw L0 i o) (qbv c' p draw L0 i o):=by
 intro s r hr;obtain⟨dst,op,g,af⟩:=o;cases op
 case call iso f args=>
  simp only[qbv]at hr⊢
  split at hr
  ·rename_i k caps vs h1 h2
   split at hr
   ·rename_i hiso
    simp only[hiso,if_true];split at hr
    ·rename_i ds hd hcaps
     split at hr
     ·rename_i v A B hc
      rw[h _ _ _ _ _ _ hc];exact hr
     ·simp at hr
    ·simp at hr
   ·rename_i hiso
    simp only[hiso];split at hr
    ·rename_i hc
     rw[h _ _ _ _ _ _ hc];exact hr
    ·simp at hr
  ·simp at hr
 case callT th f args=>
  simp only[qbv]at hr⊢
  split at hr
  ·split at hr
   ·rename_i hd
    rw[if_pos hd];obtain⟨ds,h1,h2⟩:=yb_.1 hr;rw[h1];simp only[Option.bind_some];split at h2
    ·rename_i hc
     rw[h _ _ _ _ _ _ hc];exact h2
    ·simp at h2
   ·simp at hr
  ·simp at hr
 all_goals exact hr
theorem qy8{c c':qaz}(h:CLe c c')(p:Id)(draw:Bool)(L0:Nat)(os:List VOper):∀i,FLe (qcQ c p draw L0 i os) (qcQ c' p draw L0 i os):=by
 induction os with
 |nil=>intro i s r hr;exact hr
 |cons o os ih=>
  intro i s r hr;simp only[qcQ]at hr⊢
  split at hr
  ·obtain⟨s1,h1,h2⟩:=yb_.1 hr
   exact yb_.2 ⟨s1,qET h p draw L0 i o s s1 h1,ih _ _ _ h2⟩
  ·exact ih _ _ _ hr
  ·simp at hr
theorem qhZ{c c':qaz}(h:CLe c c')(p:Id)(draw:Bool)(na:Nat)(live:List Nat)(ops:List VOper):FLe (qcx c p draw na live ops) (qcx c' p draw na live ops):=by
 intro s r hr;unfold qcx at hr⊢
 split
 ·simp_all
 ·rename_i hd
  simp only[hd]at hr;obtain⟨s1,h1,h2⟩:=ya_.1 hr;exact ya_.2 ⟨s1,qy8 h p draw _ ops 0 _ _ h1,h2⟩
theorem qyO{f g:St->Option (Ex×St)}(h:FLe f g)(L1:Nat)(live:List Nat):∀n m,n<=m->FLe (qls f L1 live n) (qls g L1 live m):=by
 intro n
 induction n with
 |zero=>intro m _ s r hr;simp[qls]at hr
 |succ n ih=>
  intro m hm s r hr;obtain⟨m,rfl⟩:∃k,m=k+1:=⟨m-1,by omega⟩;simp only[qls]at hr⊢
  obtain⟨s0,h0,hr⟩:=yb_.1 hr;obtain⟨⟨e,s1⟩,h1,hr⟩:=yb_.1 hr;refine yb_.2 ⟨s0,h0,yb_.2 ⟨(e,s1),h _ _ h1,?_⟩⟩;cases e with
  |normal=>exact ih m (by omega) _ _ hr
  |exit id=>exact hr
  |ret=>exact hr
theorem qft{c c':qaz}(h:CLe c c')(p:Id){n m:Nat}(hn:n<=m)(vc:VCode):FLe (qaP c p n vc) (qaP c' p m vc):=by
 induction vc with
 |skip=>intro s r hr;exact hr
 |ret=>intro s r hr;exact hr
 |exit id=>intro s r hr;exact hr
 |seq a b iha ihb=>
  intro s r hr;simp only[qaP]at hr⊢
  obtain⟨⟨e,s1⟩,h1,hr⟩:=yb_.1 hr;refine yb_.2 ⟨(e,s1),iha _ _ h1,?_⟩;cases e with
  |normal=>exact ihb _ _ hr
  |exit id=>exact hr
  |ret=>exact hr
 |region draw na live ops=>
  intro s r hr;simp only[qaP]at hr⊢
  obtain⟨s1,h1,h2⟩:=ya_.1 hr;exact ya_.2 ⟨s1,qhZ h p draw na live ops _ _ h1,h2⟩
 |regionF draw na live fs=>
  intro s r hr;simp only[qaP]at hr⊢
  obtain⟨s1,h1,h2⟩:=ya_.1 hr;exact ya_.2 ⟨s1,qhZ h p draw na live (qhR fs) _ _ h1,h2⟩
 |cond x a b iha ihb=>
  intro s r hr;simp only[qaP]at hr⊢
  split at hr
  ·exact iha _ _ hr
  ·exact ihb _ _ hr
  ·simp at hr
 |block id cc ih=>
  intro s r hr;simp only[qaP]at hr⊢
  obtain⟨s1,h1,h2⟩:=ya_.1 hr;exact ya_.2 ⟨s1,ih _ _ h1,h2⟩
 |loop live cc ih=>
  intro s r hr;simp only[qaP]at hr⊢
  exact qyO ih _ _ n m hn _ _ hr
theorem qyh{c c':qaz}(h:CLe c c')(p:Id)(sf:SFn)(A:Ids)(a:Id)(x:DV)(xr:List DV):∀r,qnW c p sf A a x xr=some r->qnW c' p sf A a x xr=some r:=by
 intro r hr;unfold qnW at hr⊢
 obtain⟨l,hl,hr⟩:=yb_.1 hr;refine yb_.2 ⟨l,hl,?_⟩;split at hr
 ·rename_i hc
  rw[if_pos hc];split at hr
  ·rename_i v A2 cs hq
   rw[h _ _ _ _ _ _ hq];exact hr
  ·simp at hr
 ·simp at hr
theorem qye{c c':qaz}(h:CLe c c'){n m:Nat}(hn:n<=m)(p:Id)(sf:SFn)(ds:List DV):∀r,qpH c n p sf ds=some r->qpH c' m p sf ds=some r:=by
 intro r hr;unfold qpH at hr⊢
 split at hr
 ·simp at hr
 rename_i hlen;rw[if_neg hlen];obtain⟨⟨e,s⟩,h1,h2⟩:=yb_.1 hr;refine yb_.2 ⟨(e,s),qft h p hn sf.pre _ _ h1,?_⟩;simp only at h2⊢
 split at h2
 ·rename_i a sz x xr e1 e2
  obtain⟨y,h3,h4⟩:=yb_.1 h2;obtain⟨q,h5,h6⟩:=ya_.1 h4;exact yb_.2 ⟨y,h3,ya_.2 ⟨q,qyh h _ _ _ _ _ _ _ h5,h6⟩⟩
 ·rename_i e1
  obtain⟨q,h5,h6⟩:=yb_.1 h2;exact yb_.2 ⟨q,qft h p hn sf.rest _ _ h5,h6⟩
 ·rename_i g e1 e2
  obtain⟨q,h5,h6⟩:=yb_.1 h2;exact yb_.2 ⟨q,qft h p hn sf.rest _ _ h5,h6⟩
 ·simp at h2
theorem qzJ(E:Env):∀n,CLe (qeN E n) (qeN E (n+1)):=by
 intro n
 induction n with
 |zero=>intro p f as B O r hr;simp[qeN]at hr
 |succ n ih=>
  intro p f as B O r hr;rw[qeN]at hr⊢
  split
  ·rename_i g hg
   rw[hg]at hr;exact hr
  ·rename_i hg
   simp only[hg]at hr;split
   ·rename_i hf
    simp only[hf]at hr;split
    ·rename_i hs;simp[hs]at hr
    ·rename_i sf hs
     simp only[hs]at hr;obtain⟨ds,h1,h2⟩:=yb_.1 hr;obtain⟨q,h3,h4⟩:=ya_.1 h2;exact yb_.2 ⟨ds,h1,ya_.2 ⟨q,qye ih (Nat.le_succ n) p sf ds _ h3,h4⟩⟩
   ·rename_i vf hf
    simp only[hf]at hr;split at hr
    ·simp at hr
    ·rename_i hnp
     rw[if_neg hnp];obtain⟨s1,h1,h2⟩:=yb_.1 hr;exact yb_.2 ⟨s1,qft ih p (Nat.le_succ n) vf.code _ _ h1,h2⟩
theorem qJj(E:Env){n m:Nat}(h:n<=m):CLe (qeN E n) (qeN E m):=by
 induction h with
 |refl=>intro p f as B O r hr;exact hr
 |step _ ih=>intro p f as B O r hr;exact qzJ E _ _ _ _ _ _ _ (ih _ _ _ _ _ _ hr)
noncomputable def lim{α:Type}(f:Nat->Option α):Option α:=if h:∃n,(f n).isSome then f (Classical.choose h)else none
theorem qw5{α:Type}{f:Nat->Option α}(hm:∀n m r,n<=m->f n=some r->f m=some r)(r:α):lim f=some r↔∃n,f n=some r:=by
 unfold lim;split
 ·rename_i h
  have hs:=Classical.choose_spec h;obtain⟨x,hx⟩:=Option.isSome_iff_exists.1 hs;constructor
  ·intro e;exact⟨_,e⟩
  ·rintro⟨n,hn⟩
   rcases Nat.le_total n (Classical.choose h)with hle|hle
   ·exact hm _ _ _ hle hn
   ·have:=hm _ _ _ hle hx
    rw[hn]at this;rw[hx,<-this]
 ·rename_i h
  constructor
  ·intro e;simp at e
  ·rintro⟨n,hn⟩;exact absurd ⟨n,by simp[hn]⟩ h
noncomputable def qzI(E:Env):qaz:=fun p f as B O=>lim fun n=>qeN E n p f as B O
theorem qns{E:Env}{p:Id}{f:Nat}{as:List AV}{B:qal}{O:Ids}{r:Res}:qzI E p f as B O=some r↔∃n,qeN E n p f as B O=some r:=
 qw5 (fun n m r h hr=>qJj E h _ _ _ _ _ _ hr) r
theorem qen{α:Type}{a b:Option α}(h:∀r,a=some r↔b=some r):a=b:=by
 cases a with
 |none=>cases b with
  |none=>rfl
  |some x=>exact absurd ((h x).2 rfl) (by simp)
 |some x=>exact((h x).1 rfl).symm
end Go.Proofs.YtbcbkiaineacpaaGreat.VS
namespace Go.Proofs.YtbcbkiaineacpaaGreat.VS
theorem qaf(k:IntKind)(n:Int):(DV.int k n).isCell=true:=rfl
theorem qtF(b:Bool):(DV.bool b).isCell=true:=rfl
theorem qy1(s:ByteArray):(DV.str s).isCell=true:=rfl
theorem qai(g:Tag)(xs:List DV):(DV.sl g xs).isCell=true:=rfl
theorem qam(v:DV):(AV.d v).isCell=v.isCell:=rfl
theorem qtG(i o:Nat):(AV.ptr i o).isCell=true:=rfl
theorem qy2(f:Nat)(c:List AV):(AV.fn f c).isCell=true:=rfl
theorem qFI(k:IntKind)(n:Int):(DV.int k n).cells=[.int k n]:=rfl
theorem qzB(b:Bool):(DV.bool b).cells=[.bool b]:=rfl
theorem qFH(s:ByteArray):(DV.str s).cells=[.str s]:=rfl
theorem qxq(g:Tag)(xs:List DV):(DV.sl g xs).cells=[.sl g xs]:=rfl
theorem qFJ(cs:List DV):(DV.agg cs).cells=cs:=rfl
theorem qzE(k:IntKind)(n:Int):(AV.d (.int k n)).cells=[.d (.int k n)]:=rfl
theorem quk(b:Bool):(AV.d (.bool b)).cells=[.d (.bool b)]:=rfl
theorem qzC(s:ByteArray):(AV.d (.str s)).cells=[.d (.str s)]:=rfl
theorem qFK(g:Tag)(xs:List DV):(AV.d (.sl g xs)).cells=[.d (.sl g xs)]:=rfl
theorem qzF(cs:List DV):(AV.d (.agg cs)).cells=cs.map .d:=rfl
theorem qzD(i o:Nat):(AV.ptr i o).cells=[.ptr i o]:=rfl
theorem qFL(f:Nat)(c:List AV):(AV.fn f c).cells=[.fn f c]:=rfl
theorem qaC(m:Nat)(v:DV):(AV.d v).safe m=true:=by unfold AV.safe;rfl
theorem qHF(m i o:Nat):(AV.ptr i o).safe m=decide (i<m):=by unfold AV.safe;rfl
theorem qcN(m f:Nat)(c:List AV):(AV.fn f c).safe m=AV.safe.safes m c:=by rw[AV.safe]
theorem qHG(m:Nat)(id:Id)(a:Bool)(i sz n:Nat):(AV.bsl id a i sz n).safe m=decide (i<m):=by unfold AV.safe;rfl
theorem qaE(m:Nat)(a:Bool)(i sz n:Nat):(AV.tsl a i sz n).safe m=decide (i<m):=by unfold AV.safe;rfl
theorem qsA(m:Nat)(t:Bool)(c:List AV):(AV.ag t c).safe m=AV.safe.safes m c:=by rw[AV.safe]
theorem qFM(c:List AV):(AV.ag false c).cells=c:=rfl
theorem qbi(m:Nat):AV.safe.safes m []=true:=by unfold AV.safe.safes;rfl
theorem qgn(m:Nat)(a:AV)(r:List AV):AV.safe.safes m (a::r)=(a.safe m&&AV.safe.safes m r):=by rw[AV.safe.safes]
theorem qE4(op:BinOp)(k:IntKind)(x y:Int):qeM op (.int k x) (.int k y)=qdN op k x y:=by
 cases op<;>first|rfl|exact if_pos rfl
theorem qE3(k:IntKind)(x y:Int):qdN .add k x y=some (.int k (k.wrap (x+y))):=rfl
theorem qEV(k:IntKind)(x y:Int):qdN .sub k x y=some (.int k (k.wrap (x-y))):=rfl
theorem qEX(k:IntKind)(x y:Int):qdN .mul k x y=some (.int k (k.wrap (x*y))):=rfl
theorem qE2(k:IntKind)(x y:Int):qdN .eql k x y=some (.bool (x==y)):=rfl
theorem qEW(k:IntKind)(x y:Int):qdN .neq k x y=some (.bool (x !=y)):=rfl
theorem qEY(k:IntKind)(x y:Int):qdN .lss k x y=some (.bool (decide (x<y))):=rfl
theorem qEZ(k:IntKind)(x y:Int):qdN .leq k x y=some (.bool (decide (x<=y))):=rfl
theorem qE0(k:IntKind)(x y:Int):qdN .gtr k x y=some (.bool (decide (x>y))):=rfl
theorem qE1(k:IntKind)(x y:Int):qdN .geq k x y=some (.bool (decide (x>=y))):=rfl
theorem qUd(n:Nat):lk [] n=none:=rfl
theorem qOa(t:Nat)(v:AV)(r:List (Nat×AV))(n:Nat):lk ((t,v)::r) n=if n=t then some v else lk r n:=rfl
theorem qXK(r:List (Nat×AV))(n:Nat):VX.get r (.t n)=lk r n:=rfl
theorem qXL(r:List (Nat×AV))(v:AV):VX.get r (.c v)=some v:=rfl
theorem qIE(r:List (Nat×AV)):keep r []=[]:=rfl
theorem qEp(r:List (Nat×AV))(t:Nat)(ts:List Nat):keep r (t::ts)=match lk r t with|some v=>(t,v)::keep r ts|none=>keep r ts:=rfl
def qML(v:Option AV)(w:Bool):Option Bool:=
 match v with
 |some (.d (.bool b))=>some (b==w)
 |some .und=>some false
 |_=>none
theorem qRo(r:List (Nat×AV)):qcI r none=some true:=rfl
theorem qRn(r:List (Nat×AV))(t:Nat)(w:Bool):qcI r (some (t,w))=qML (lk r t) w:=rfl
theorem qRp(b w:Bool):qML (some (.d (.bool b))) w=some (b==w):=rfl
theorem qWc(w:Bool):qML (some .und) w=some false:=rfl
def runN{β γ:Type}(step:β->Nat->β⊕γ):Nat->β->Nat->β⊕γ
 |0,a,_=> .inl a
 |k+1,a,i=>match step a i with
  | .inl a'=>runN step k a' (i+1)
  | .inr r=> .inr r
end Go.Proofs.YtbcbkiaineacpaaGreat.VS
namespace Go.Proofs.YtbcbkiaineacpaaGreat.VS
structure Gh where
 K:Nat->Nat
 row:Id->Option (Nat×Nat×Nat×Nat)
 bx:Nat->Option Nat
inductive VR(g:Gh)(w:World):DV->Value->Prop where
 |int (k:IntKind) (n:Int):VR g w (.int k n) (.int k n)
 |bool (b:Bool):VR g w (.bool b) (.bool b)
 |str (s:ByteArray):VR g w (.str s) (.string s)
 |agg (cs:List DV) (us:Array Value):us.size=cs.length->(∀v:DV,v∈cs->v.isCell=true)->(∀(j:Nat) (v:DV) (u:Value),cs[j]?=some v->us[j]?=some u->VR g w v u)->VR g w (.agg cs) (.agg us)
 |tup (cs:List DV) (us:Array Value):us.size=cs.length->(∀(j:Nat) (v:DV) (u:Value),cs[j]?=some v->us[j]?=some u->VR g w v u)->VR g w (.tup cs) (.tuple us)
 |nil:VR g w (.sl .nil []) (.slice none 0 0)
 |row (t:Tag) (xs:List DV) (ad:Addr) (c s:Nat) (U:Nat->Value):t≠.nil->xs.length<=c->c<=maxLen->
  (∀k,k<xs.length*s->w.cell? (ad.add k)=some (U k))->(xs.length*s=0\/ad.off+xs.length*s<=g.K ad.block)->
  (∀(i:Nat) (x:DV),xs[i]?=some x->x.cells.length=s/\∀v:DV,v∈x.cells->v.isCell=true)->
  (∀(i:Nat) (x:DV) (j:Nat) (v:DV),xs[i]?=some x->x.cells[j]?=some v->VR g w v (U (i*s+j)))->
  (∀a sz,t= .own a sz->ad.off=0/\ad.spot=none/\s=sz/\g.row a=some (ad.block,xs.length,c,s)/\(xs=[]->c=0))->
  VR g w (.sl t xs) (.slice (some ad) xs.length c)
structure ExtV(g:Gh)(w:World)(g':Gh)(w':World):Prop where
 K:∀b,g.K b<=g'.K b
 cell:∀ad:Addr,ad.off<g.K ad.block->w'.cell? ad=w.cell? ad
 row:∀a x,g.row a=some x->g'.row a=some x
theorem ExtV.refl(g:Gh)(w:World):ExtV g w g w:=⟨fun _=>Nat.le_refl _,fun _ _=>rfl,fun _ _ h=>h⟩
theorem ExtV.trans{g g' g'':Gh}{w w' w'':World}(h:ExtV g w g' w')(h':ExtV g' w' g'' w''):ExtV g w g'' w'':=
 ⟨fun b=>Nat.le_trans (h.K b) (h'.K b),fun ad hk=>(h'.cell ad (Nat.lt_of_lt_of_le hk (h.K _))).trans (h.cell ad hk),fun a x hx=>h'.row a x (h.row a x hx)⟩
theorem add_block(ad:Addr)(k:Nat):(ad.add k).block=ad.block:=by unfold Addr.add;split<;>rfl
theorem qiU(ad:Addr)(k:Nat):(ad.add k).off=ad.off+k:=by unfold Addr.add;split<;>simp_all
theorem VR.mono{g g':Gh}{w w':World}(e:ExtV g w g' w'){v:DV}{u:Value}(h:VR g w v u):VR g' w' v u:=by
 induction h with
 |int k n=>exact .int k n
 |bool b=>exact .bool b
 |str s=>exact .str s
 |agg cs us hs hc _ ih=>exact .agg cs us hs hc ih
 |tup cs us hs _ ih=>exact .tup cs us hs ih
 |nil=>exact .nil
 |row t xs ad c s U ht hl hm hcell hK hc _ hown ih=>
  refine .row t xs ad c s U ht hl hm (fun k hk=> ?_) (hK.imp_right fun h=>Nat.le_trans h (e.K _)) hc ih (fun a sz ha=> ?_)
  ·rw[e.cell _ (by rw[add_block,qiU];omega)]
   exact hcell k hk
  ·obtain⟨h1,h2,h3,h4,h5⟩:=hown a sz ha
   exact⟨h1,h2,h3,e.row _ _ h4,h5⟩
variable (fid:Nat->FuncId)
inductive AVR(g:Gh)(w:World):AV->Value->Prop where
 |d (v:DV) (u:Value):VR g w v u->AVR g w (.d v) u
 |ptr (i off b:Nat):g.bx i=some b->AVR g w (.ptr i off) (.pointer (some ⟨b,off,none⟩))
 |ep (cs:List DV) (ad:Addr) (U:Nat->Value):ad.spot=none->ad.off+cs.length<=g.K ad.block->(∀(j:Nat) (v:DV),cs[j]?=some v->w.cell? (ad.add j)=some (U j)/\v.isCell=true/\VR g w v (U j))->AVR g w (.ep cs) (.pointer (some ad))
 |nilp:AVR g w .nilp (.pointer none)
 |fn (f:Nat) (cap:List AV) (us:Array Value):us.size=cap.length->(∀(j:Nat) (v:AV) (u:Value),cap[j]?=some v->us[j]?=some u->AVR g w v u)->AVR g w (.fn f cap) (.func (.func (fid f)) #[] us)
 |bsl (id:Id) (agg:Bool) (i sz n b:Nat):g.bx i=some b->AVR g w (.bsl id agg i sz n) (.slice (some ⟨b,0,none⟩) n n)
 |tsl (agg:Bool) (i sz n c b:Nat):g.bx i=some b->n<=c->c<=maxLen->AVR g w (.tsl agg i sz n) (.slice (some ⟨b,0,none⟩) n c)
 |ag (cs:List AV) (us:Array Value):us.size=cs.length->(∀(j:Nat) (v:AV) (u:Value),cs[j]?=some v->us[j]?=some u->AVR g w v u)->AVR g w (.ag false cs) (.agg us)
 |tp (cs:List AV) (us:Array Value):us.size=cs.length->(∀(j:Nat) (v:AV) (u:Value),cs[j]?=some v->us[j]?=some u->AVR g w v u)->AVR g w (.ag true cs) (.tuple us)
 |und:AVR g w .und undef
structure Ext(g:Gh)(w:World)(g':Gh)(w':World):Prop where
 toExtV:ExtV g w g' w'
 bx:∀i b,g.bx i=some b->g'.bx i=some b
theorem Ext.refl(g:Gh)(w:World):Ext g w g w:=⟨ExtV.refl g w,fun _ _ h=>h⟩
theorem Ext.trans{g g' g'':Gh}{w w' w'':World}(h:Ext g w g' w')(h':Ext g' w' g'' w''):Ext g w g'' w'':=
 ⟨ExtV.trans h.toExtV h'.toExtV,fun i b hb=>h'.bx i b (h.bx i b hb)⟩
theorem AVR.mono{g g':Gh}{w w':World}(e:Ext g w g' w'){v:AV}{u:Value}(h:AVR fid g w v u):AVR fid g' w' v u:=by
 induction h with
 |d v u h=>exact .d v u (h.mono e.toExtV)
 |ptr i off b h=>exact .ptr i off b (e.bx _ _ h)
 |ep cs ad U hs hK h=>
  exact .ep cs ad U hs (Nat.le_trans hK (e.toExtV.K _)) fun j v hj=>by
   obtain⟨h1,h2,h3⟩:=h j v hj;have hlt:j<cs.length:=(List.getElem?_eq_some_iff.1 hj).1;exact⟨by rw[e.toExtV.cell _ (by rw[add_block,qiU];omega)];exact h1,h2,h3.mono e.toExtV⟩
 |nilp=>exact .nilp
 |fn f cap us hs _ ih=>exact .fn f cap us hs ih
 |bsl id agg i sz n b h=>exact .bsl id agg i sz n b (e.bx _ _ h)
 |tsl agg i sz n c b h h1 h2=>exact .tsl agg i sz n c b (e.bx _ _ h) h1 h2
 |ag cs us hs _ ih=>exact .ag cs us hs ih
 |tp cs us hs _ ih=>exact .tp cs us hs ih
 |und=>exact .und
theorem AVR.data{g g':Gh}{w w':World}(e:ExtV g w g' w'){v:DV}{u:Value}(h:AVR fid g w (.d v) u):AVR fid g' w' (.d v) u:=by
 cases h with
 |d _ _ h=>exact .d _ _ (h.mono e)
structure Core(g:Gh)(w:World)(B:qal)(A:Ids):Prop where
 box:∀i b,g.bx i=some b->∃cs arr e,B[i]?=some (some cs)/\w.heap[b]?=some (.cells arr e (0,0))/\cs.length<=arr.size/\
  (∀(j:Nat) (v:AV) (u:Value),cs[j]?=some v->arr[j]?=some u->AVR fid g w v u)/\(∀v,v∈cs->v.isCell=true/\v.safe i=true)/\g.K b=0
 inj:∀i j b,g.bx i=some b->g.bx j=some b->i=j
 opn:∀a,A a=true->∃b n c sz arr e,g.row a=some (b,n,c,sz)/\w.heap[b]?=some (.cells arr e (0,0))/\c*sz<=arr.size/\g.K b=n*sz/\n<=c/\(∀i,g.bx i≠some b)
 apart:∀a a' b x x',A a=true->A a'=true->g.row a=some (b,x)->g.row a'=some (b,x')->a=a'
 K0:∀b,w.heap.size<=b->g.K b=0
def Gh.blk(g:Gh)(a:Id):Option Nat:=(g.row a).map (·.1)
structure Step(N:Id->Prop)(g:Gh)(w:World)(A:Ids)(g':Gh)(w':World)(A':Ids):Prop where
 os:w'.os=w.os
 tape:w'.tape=w.tape
 output:w'.output=w.output
 size:w.heap.size<=w'.heap.size
 ext:ExtV g w g' w'
 keep:∀b,b<w.heap.size->(∀i,g.bx i≠some b)->(∀a,A a=true->g.blk a≠some b)->w'.heap[b]?=w.heap[b]?/\g'.K b=g.K b
 new:∀a,g'.row a≠g.row a->N a
 org:∀a b,A' a=true->g'.blk a=some b->w.heap.size<=b\/∃a0,A a0=true/\g.blk a0=some b
 arr:∀(b:Nat) (c:Array Value) (e:TypeId) (z:Nat×Nat),w.heap[b]?=some (Obj.cells c e z)->∃c':Array Value,w'.heap[b]?=some (Obj.cells c' e z)/\c'.size=c.size
structure Boxes(g:Gh)(w:World)(g':Gh):Prop where
 old:∀i b,g.bx i=some b->g'.bx i=some b
 new:∀i b,g'.bx i=some b->g.bx i=some b\/w.heap.size<=b
theorem Boxes.refl(g:Gh)(w:World):Boxes g w g:=⟨fun _ _ h=>h,fun _ _ h=> .inl h⟩
theorem Boxes.trans{g g' g'':Gh}{w w':World}(h:Boxes g w g')(hs:w.heap.size<=w'.heap.size)(h':Boxes g' w' g''):Boxes g w g'':=
 ⟨fun i b hb=>h'.old i b (h.old i b hb),fun i b hb=>by
  rcases h'.new i b hb with h1|h1
  ·exact h.new i b h1
  ·exact .inr (Nat.le_trans hs h1)⟩
theorem Step.refl(N:Id->Prop)(g:Gh)(w:World)(A:Ids):Step N g w A g w A:=
 ⟨rfl,rfl,rfl,Nat.le_refl _,.refl g w,fun _ _ _ _=>⟨rfl,rfl⟩,fun a h=>absurd rfl h,fun a b ha hb=> .inr ⟨a,ha,hb⟩,fun b c e z h=>⟨c,h,rfl⟩⟩
theorem Step.trans{N:Id->Prop}{g g' g'':Gh}{w w' w'':World}{A A' A'':Ids}(h:Step N g w A g' w' A')(hb:Boxes g w g')(h':Step N g' w' A' g'' w'' A''):Step N g w A g'' w'' A'':=by
 refine⟨h'.os.trans h.os,h'.tape.trans h.tape,h'.output.trans h.output,Nat.le_trans h.size h'.size,h.ext.trans h'.ext,fun b hlt hbx ha=> ?_,fun a hne=> ?_,fun a b ha hab=> ?_,fun b c e z hb=> ?_⟩
 ·obtain⟨h1,h2⟩:=h.keep b hlt hbx ha
  have hlt':b<w'.heap.size:=Nat.lt_of_lt_of_le hlt h.size;obtain⟨h3,h4⟩:=h'.keep b hlt' (fun i hi=>by
   rcases hb.new i b hi with h5|h5
   ·exact hbx i h5
   ·omega) (fun a haa hblk=>by
    rcases h.org a b haa hblk with h5|⟨a0,h5,h6⟩
    ·omega
    ·exact ha a0 h5 h6)
  exact⟨h3.trans h1,h4.trans h2⟩
 ·by_cases h1:g'.row a=g.row a
  ·exact h'.new a (by rw[h1];exact hne)
  ·exact h.new a h1
 ·rcases h'.org a b ha hab with h1|⟨a0,h1,h2⟩
  ·exact .inl (Nat.le_trans h.size h1)
  ·exact h.org a0 b h1 h2
 ·obtain⟨c1,h1,h2⟩:=h.arr b c e z hb
  obtain⟨c2,h3,h4⟩:=h'.arr b c1 e z h1;exact⟨c2,h3,h4.trans h2⟩
theorem Step.weaken{N N':Id->Prop}{g g':Gh}{w w':World}{A A':Ids}(h:Step N g w A g' w' A')(hn:∀a,N a->N' a):Step N' g w A g' w' A':=
 {h with new:=fun a ha=>hn a (h.new a ha)}
def qef(g:Gh)(w:World)(r:List (Nat×AV))(tm:Array Value):Prop:=∀t v,lk r t=some v->AVR fid g w v (tm.getD t undef)
theorem qef.mono{g g':Gh}{w w':World}(e:Ext g w g' w'){r:List (Nat×AV)}{tm:Array Value}(h:qef fid g w r tm):qef fid g' w' r tm:=
 fun t v hv=>(h t v hv).mono fid e
end Go.Proofs.YtbcbkiaineacpaaGreat.VS
namespace Go.Proofs.YtbcbkiaineacpaaGreat.VS
def qqG:Value->DV->Bool
 | .int k n,.int k' n'=>decide (k=k')&&decide (n=n')
 | .bool b,.bool b'=>b==b'
 | .string s,.str s'=>decide (s=s')
 | .slice none 0 0,.sl .nil []=>true
 |_,_=>false
def qda:List Value->List DV->Bool
 | [],[]=>true
 |u::us,v::vs=>qqG u v&&qda us vs
 |_,_=>false
def qwV:Value->DV->Bool
 | .agg us,.agg vs=>qda us.toList vs
 |u,v=>qqG u v
variable (P:Program) (fid:Nat->FuncId)
def okX:Operand->VX->Bool
 | .tmp t,.t t'=>t==t'
 | .const (.pointer none),.c .nilp=>true
 | .const u,.c (.d v)=>qwV u v
 | .func f,.c (.fn f' [])=>f==fid f'
 |_,_=>false
def qLL:List Operand->List VX->Bool
 | [],[]=>true
 |o::os,x::xs=>okX fid o x&&qLL os xs
 |_,_=>false
def qzX:Option Operand->Option VX->Bool
 |none,none=>true
 |some o,some x=>okX fid o x
 |_,_=>false
def qqQ(t:TypeId):Option Bool:=
 (P.underlying t).map fun d=>match d with| .struct _| .array _ _=>true|_=>false
def qe1(t:TypeId):Option Nat:=(P.info? t).map (·.size)
def qxs(t:TypeId):Option Nat:=(P.info? t).map (·.bytes)
def qz0(t:TypeId)(vs:List DV):Bool:=
 match (P.info? t).bind (·.zero)with
 |some z=>qda z.cells.toList vs
 |none=>false
def zeroV(t:TypeId)(v:DV):Bool:=
 match (P.info? t).bind (·.zero)with
 |some z=>qwV z v
 |none=>false
def qrj(t:TypeId):Option TypeId:=
 match P.underlying t with
 |some (.slice e)=>some e
 |_=>none
def qf5(place:Nat->Option (Nat×Nat)):List (Nat×Operand)->List (Nat×Nat×VX)->Bool
 | [],[]=>true
 |(i,o)::r,(off,size,x)::r'=>place i==some (off,size)&&okX fid o x&&qf5 place r r'
 |_,_=>false
def qyJ:List (Nat×Operand)->List (Nat×VX)->Bool
 | [],[]=>true
 |(i,o)::r,(i',x)::r'=>i==i'&&okX fid o x&&qyJ r r'
 |_,_=>false
def fieldsOf(t:TypeId):Option (Array Field):=
 match P.underlying t with
 |some (.struct fs)=>some fs
 |_=>none
def arrayOf(t:TypeId):Option (Nat×TypeId):=
 match P.underlying t with
 |some (.array n e)=>some (n,e)
 |_=>none
def qyW(t:TypeId):Bool:=match P.underlying t with|some .string=>true|_=>false
def qID(t:TypeId):Option IntKind:=match P.underlying t with|some (.int k)=>some k|_=>none
def isInt(t:TypeId):Bool:=match P.underlying t with|some (.int _)=>true|_=>false
def qc8:Nat->List Field->List Nat->Bool
 |_,[],[]=>true
 |i,f::r,k::ks=>decide (f.offset=i)&&f.name != "_"&&
  (match P.underlying f.type with|some .bool=>decide (k=1)|some (.int _)=>decide (k=0)|some .string=>decide (k=2)|_=>false)&&qc8 (i+1) r ks
 |_,_,_=>false
def qDP(t:TypeId):Option (Nat->Option (Nat×Nat)):=
 match P.underlying t with
 |some (.array _ e)=>(P.info? e).map fun ie=>fun i=>some (i*ie.size,ie.size)
 |some (.struct fs)=>(fs.toList.mapM fun f=>(P.info? f.type).map fun i=>(f.offset,i.size)).map fun pl=>(pl.toArray[·]?)
 |_=>none
def qa4:Op->VOp->Bool
 | .move x,.move y| .assign x,.move y=>okX fid x y
 | .pick c a b,.pick c' a' b'=>okX fid c c'&&okX fid a a'&&okX fid b b'
 | .alloc t,.alloc _ z=>qz0 P t z
 | .alloc t,.allocE z=>qz0 P t z
 | .box _ x,.box _ y=>okX fid x y
 | .build t ps,.build z ps'=>qz0 P t z&&(match qDP P t with|some pl=>qf5 fid pl ps.toList ps'|none=>false)
 | .buildSlice t n ps,.buildSlice sz z n' ps'=>decide (n=n')&&
  (match qrj P t with
   |some e=>decide (qe1 P e=some sz)&&zeroV P e z&&qyJ fid ps.toList ps'
   |none=>false)
 | .load t a,.load agg sz x=>decide (qqQ P t=some agg)&&decide (qe1 P t=some sz)&&okX fid a x
 | .store t a v,.storeN sz x y _=>decide (qe1 P t=some sz)&&okX fid a x&&okX fid v y
 | .store t a v,.store _ sz x y=>decide (qe1 P t=some sz)&&okX fid a x&&okX fid v y
 | .nilCheck x,.nilCheck y=>okX fid x y
 | .binOp op t x y _,.bin op' x' y'=>decide (op=op')&&okX fid x x'&&okX fid y y'&&
  (match P.underlying t with|some (.int _)|some .string=>true|_=>false)
 | .binOp op t x y _,.eqB neg x' y'=>decide (op=if neg then .neq else .eql)&&okX fid x x'&&okX fid y y'&&(match P.underlying t with|some .bool=>true|_=>false)
 | .binOp op t x y _,.eqAgg neg ks x' y'=>decide (op=if neg then .neq else .eql)&&okX fid x x'&&okX fid y y'&&
  (match P.underlying t with
   |some (.struct fs)=>qc8 P 0 fs.toList ks&& !P.stoodInHeld t&& !P.eqGuardType P.depth t
   |_=>false)
 | .unOp .not _ x,.not y=>okX fid x y
 | .unOp .neg _ x,.bin op (.c (.d (.int _ n))) y=>decide (op= .sub)&&decide (n=0)&&okX fid x y
 | .convert src dst x,.conv (.kind k) y=>okX fid x y&&isInt P src&&decide (qID P dst=some k)
 | .convert src dst x,.conv .rune y=>okX fid x y&&isInt P src&&qyW P dst
 | .convert src dst x,.conv .bytes y=>okX fid x y&&qyW P dst&&(match qrj P src with|some e=>decide (qID P e=some .u8)|none=>false)
 | .index t x i,.index x' i'=>qyW P t&&okX fid x x'&&okX fid i i'
 | .indexAddr t x i,.indexAddr sz none x' i'=>okX fid x x'&&okX fid i i'&&(match qrj P t with|some e=>decide (qe1 P e=some sz)|none=>false)
 | .indexAddr t x i,.indexAddr sz (some m) x' i'=>okX fid x x'&&okX fid i i'&&(match arrayOf P t with|some (n,e)=>decide (n=m)&&decide (qe1 P e=some sz)|none=>false)
 | .fieldAddr t x f,.fieldAddr off x'=>okX fid x x'&&
  (match fieldsOf P t with
   |some fs=>(match fs[f]? with|some f=>decide (f.offset=off)&&(match qe1 P f.type with|some s=>decide (s≠0)|none=>false)|none=>false)
   |none=>false)
 | .slice t x lo hi none,.slice str sz x' lo' hi'=>okX fid x x'&&qzX fid lo lo'&&qzX fid hi hi'&&
  (match P.underlying t with
   |some .string=>str
   |some (.slice e)=> !str&&decide (qe1 P e=some sz)
   |_=>false)
 | .makeFunc (.func f) first caps,.makeFunc f' caps'=>decide (first= #[])&&f==fid f'&&qLL fid caps.toList caps'
 | .makeSlice t l c,.makeSlice _ sz bytes z x=>okX fid l x&&okX fid c x&&
  (match qrj P t with
   |some e=>decide (qe1 P e=some sz)&&decide (qxs P e=some bytes)&&zeroV P e z
   |none=>false)
 | .extract x i,.extract x' i'=>okX fid x x'&&decide (i=i')
 | .call {callee:= .value f,args,..},.call _ f' args'=>okX fid f f'&&qLL fid args.toList args'
 | .call {callee:= .value f,args,..},.callT _ f' args'=>okX fid f f'&&qLL fid args.toList args'
 | .call {callee:= .builtin .append,args,argTypes},.append sz bytes x y=>
  (match args.toList,argTypes.toList with
   | [a,b],[t,t']=>okX fid a x&&okX fid b y&&decide (t=t')&&(match qrj P t with|some e=>decide (qe1 P e=some sz)&&decide (qxs P e=some bytes)&&decide (0<sz)&&decide (0<bytes)&&((P.info? e).bind (·.zero)).any (fun z=>z.cells.size==sz)|none=>false)
   |_,_=>false)
 | .call {callee:= .builtin .len,args,argTypes},.len str x=>
  (match args.toList,argTypes.toList with
   | [a],[t]=>okX fid a x&&(match P.underlying t with|some .string=>str|some (.slice _)=> !str|_=>false)
   |_,_=>false)
 |_,.fail=>true
 |_,_=>false
def qoA(ops:Array Oper):Option (Nat×Bool)->Option (Nat×Bool)->Bool
 |none,none=>true
 |some (j,w),some (t,w')=>w==w'&&((ops[j]?).bind (·.dst))==some t
 |_,_=>false
def qf6(N:Nat)(ops:Array Oper)(o:Oper)(vo:VOper):Bool:=
 o.dst==vo.dst&&(match o.dst with|some d=>decide (d<N)|none=>true)&&qa4 P fid o.op vo.op&&qoA ops o.guard vo.guard
def qih(o:Oper):List Nat:=(o.after.toList.filter (Region.binds .any)).map (·.on)
def qbN(N:Nat)(ops:Array Oper)(draw:Bool):List Oper->List VOper->Bool
 | [],[]=>true
 |o::os,v::vs=>qf6 P fid N ops o v&&(!draw||(qih o).all fun j=>v.after.contains j)&&(!draw||v.after.all fun j=>(qih o).contains j)&&qbN N ops draw os vs
 |_,_=>false
def qaW(N:Nat):Code->VCode->Bool
 | .skip,.skip=>true
 | .ret,.ret=>true
 | .exit i,.exit j=>i==j
 | .seq a b,.seq a' b'=>qaW N a a'&&qaW N b b'
 | .region _ ops draw,.region draw' _ _ vs=>draw==draw'&&qbN P fid N ops draw ops.toList vs
 | .region _ ops draw,.regionF draw' _ _ fs=>draw==draw'&&qbN P fid N ops draw ops.toList (qhR fs)
 | .cond x a b,.cond x' a' b'=>okX fid x x'&&qaW N a a'&&qaW N b b'
 | .block i c,.block j c'=>i==j&&qaW N c c'
 | .loop c,.loop _ c'=>qaW N c c'
 |_,_=>false
def qeC:List ResultVar->List VRes->Bool
 | [],[]=>true
 | .tmp t::r,.tmp t'::r'=>t==t'&&qeC r r'
 | .cell t ty::r,.cell t' agg sz::r'=>t==t'&&decide (qqQ P ty=some agg)&&decide (qe1 P ty=some sz)&&qeC r r'
 |_,_=>false
def qbf(fn:Func)(vf:VFn):Bool:=
 (match fn.body with|some c=>qaW P fid fn.ntmps c vf.code|none=>false)&&qeC P fn.results.toList vf.results&&decide (vf.np<=fn.ntmps)&& !(fn.name== "runtime.NumGoroutine")
end Go.Proofs.YtbcbkiaineacpaaGreat.VS
namespace Go.Proofs.YtbcbkiaineacpaaGreat.VS
variable {P:Program} {fid:Nat->FuncId} {g:Gh} {w:World}
theorem qhC{u:Value}{v:DV}(h:qqG u v=true):VR g w v u/\v.isCell=true:=by
 unfold qqG at h;split at h
 ·simp at h;obtain⟨rfl,rfl⟩:=h;exact⟨.int _ _,rfl⟩
 ·simp at h;subst h;exact⟨.bool _,rfl⟩
 ·simp at h;subst h;exact⟨.str _,rfl⟩
 ·exact⟨.nil,rfl⟩
 ·simp at h
theorem qfo:∀{us:List Value} {vs:List DV},qda us vs=true->us.length=vs.length
 | [],[],_=>rfl
 |u::us,v::vs,h=>by simp[qda]at h;simp[qfo h.2]
 | [],_::_,h=>by simp[qda]at h
 |_::_,[],h=>by simp[qda]at h
theorem qgq:∀{us:List Value} {vs:List DV},qda us vs=true->∀(j:Nat) (v:DV) (u:Value),vs[j]?=some v->us[j]?=some u->qqG u v=true
 | [],[],_,j,v,u,h1,_=>by simp at h1
 |u::us,v::vs,h,j,v',u',h1,h2=>by
  simp[qda]at h;cases j with
  |zero=>simp at h1 h2;subst h1;subst h2;exact h.1
  |succ j=>simp at h1 h2;exact qgq h.2 j v' u' h1 h2
 | [],_::_,h,_,_,_,_,_=>by simp[qda]at h
 |_::_,[],h,_,_,_,_,_=>by simp[qda]at h
theorem qjl{us:List Value}{vs:List DV}(h:qda us vs=true)(v:DV)(hv:v∈vs):v.isCell=true:=by
 obtain⟨j,hj⟩:=List.mem_iff_getElem?.1 hv;have hl:=qfo h;have hlt:j<vs.length:=(List.getElem?_eq_some_iff.1 hj).1;exact(qhC (g:=⟨fun _=>0,fun _=>none,fun _=>none⟩) (w:=default) (qgq h j v (us[j]'(by omega)) hj (by simp))).2
theorem qqF{u:Value}{v:DV}(h:qwV u v=true):VR g w v u:=by
 unfold qwV at h;split at h
 ·rename_i us vs
  refine .agg _ _ (by simpa using qfo h) (fun v hv=>qjl h v hv) fun j v u h1 h2=>(qhC (qgq h j v u h1 (by simpa using h2))).1
 ·exact(qhC h).1
theorem qas{a:Act}{r:List (Nat×AV)}(hr:qef fid g w r a.tmps){o:Operand}{x:VX}{v:AV}(h:okX fid o x=true)(hv:x.get r=some v):AVR fid g w v (a.eval o):=by
 unfold okX at h;split at h
 ·simp at h;subst h;exact hr _ _ hv
 ·simp[VX.get]at hv;subst hv;exact .nilp
 ·simp[VX.get]at hv;subst hv;exact .d _ _ (qqF h)
 ·simp at h
  simp[VX.get]at hv;subst hv;subst h
  exact .fn _ _ _ rfl (by simp)
 ·simp at h
theorem qhB{a:Act}{r:List (Nat×AV)}(hr:qef fid g w r a.tmps):∀{os:List Operand} {xs:List VX} {vs:List AV},qLL fid os xs=true->qgE r xs=some vs->
 vs.length=os.length/\∀(j:Nat) (v:AV) (o:Operand),vs[j]?=some v->os[j]?=some o->AVR fid g w v (a.eval o)
 | [],[],vs,_,h=>by simp[qgE]at h;subst h;simp
 |o::os,x::xs,vs,h,hv=>by
  simp[qLL]at h;simp only[qgE]at hv;obtain⟨v,h1,h2⟩:=yb_.1 hv;obtain⟨vs',h3,rfl⟩:=ya_.1 h2;obtain⟨h4,h5⟩:=qhB hr h.2 h3;refine⟨by simp[h4],fun j v' o' h6 h7=> ?_⟩;cases j with
  |zero=>simp at h6 h7;subst h6;subst h7;exact qas hr h.1 h1
  |succ j=>simp at h6 h7;exact h5 j v' o' h6 h7
 | [],_::_,_,h,_=>by simp[qLL]at h
 |_::_,[],_,h,_=>by simp[qLL]at h
theorem qee{v:DV}{u:Value}(h:AVR fid g w (.d v) u):VR g w v u:=by cases h with|d _ _ h=>exact h
theorem qeu{i off:Nat}{u:Value}(h:AVR fid g w (.ptr i off) u):∃b,g.bx i=some b/\u= .pointer (some ⟨b,off,none⟩):=by
 cases h with|ptr _ _ b h=>exact⟨b,h,rfl⟩
theorem qcC{k:IntKind}{n:Int}{u:Value}(h:AVR fid g w (.d (.int k n)) u):u= .int k n:=by
 cases qee h;rfl
theorem qdl{b:Bool}{u:Value}(h:AVR fid g w (.d (.bool b)) u):u= .bool b:=by
 cases qee h;rfl
theorem ql3{s:ByteArray}{u:Value}(h:AVR fid g w (.d (.str s)) u):u= .string s:=by
 cases qee h;rfl
theorem qeY{v:DV}{u:Value}(h:VR g w v u)(hc:v.isCell=true):u.oneCell'=true/\u.cells= #[u]/\v.cells=[v]:=by
 cases h<;>simp_all[DV.isCell,Value.oneCell',Value.cells,DV.cells]
theorem qnP{v:DV}{u:Value}(h:VR g w v u)(hc:∀c,c∈v.cells->c.isCell=true):
 u.cells.size=v.cells.length/\(∀(j:Nat) (c:DV) (x:Value),v.cells[j]?=some c->u.cells[j]?=some x->VR g w c x)/\(∀x,x∈u.cells.toList->x.oneCell'=true):=by
 cases h with
 |agg cs us hs hcell hv=>
  refine⟨hs,hv,fun x hx=> ?_⟩;obtain⟨j,hj⟩:=List.mem_iff_getElem?.1 hx;simp[Value.cells]at hj;have hlt:j<us.size:=(Array.getElem?_eq_some_iff.1 hj).1;have hl:j<cs.length:=by omega
  exact(qeY (hv j cs[j] x (by simp) hj) (hcell _ (by simp))).1
 |tup cs us hs hv=>exact absurd (hc (.tup cs) (by simp[DV.cells])) (by simp[DV.isCell])
 |int k n=>exact⟨rfl,fun j c x h1 h2=>by cases j<;>simp[DV.cells,Value.cells]at h1 h2;subst h1;subst h2;exact .int _ _,by simp[Value.cells,Value.oneCell']⟩
 |bool b=>exact⟨rfl,fun j c x h1 h2=>by cases j<;>simp[DV.cells,Value.cells]at h1 h2;subst h1;subst h2;exact .bool _,by simp[Value.cells,Value.oneCell']⟩
 |str s=>exact⟨rfl,fun j c x h1 h2=>by cases j<;>simp[DV.cells,Value.cells]at h1 h2;subst h1;subst h2;exact .str _,by simp[Value.cells,Value.oneCell']⟩
 |nil=>exact⟨rfl,fun j c x h1 h2=>by cases j<;>simp[DV.cells,Value.cells]at h1 h2;subst h1;subst h2;exact .nil,by simp[Value.cells,Value.oneCell']⟩
 |row t xs ad c s U ht hl hm hcell hK hcs hv hown=>
  exact⟨rfl,fun j c x h1 h2=>by cases j<;>simp[DV.cells,Value.cells]at h1 h2;subst h1;subst h2;exact .row t xs ad _ s U ht hl hm hcell hK hcs hv hown,by simp[Value.cells,Value.oneCell']⟩
theorem qU8{agg:Bool}{sz:Nat}{cs:List DV}{v:DV}(hc:cut agg sz cs=some v)(ad:Addr)(U:Nat->Value)
 (h:∀(j:Nat) (c:DV),cs[j]?=some c->w.cell? (ad.add j)=some (U j)/\c.isCell=true/\VR g w c (U j)):
 ∃u,VR g w v u/\(agg=true->u= .agg ((List.range sz).map U).toArray/\∀j,j<sz->w.cell? (ad.add j)=some (U j))/\(agg=false->u=U 0/\w.cell? (ad.add 0)=some (U 0)):=by
 unfold cut at hc;cases agg with
 |true=>
  simp at hc;obtain⟨hl,rfl⟩:=hc;refine⟨.agg ((List.range sz).map U).toArray,?_,fun _=>⟨rfl,fun j hj=>(h j cs[j] (by simp)).1⟩,by simp⟩;refine .agg _ _ (by simp;omega) (fun v hv=> ?_) (fun j v u h1 h2=> ?_)
  ·obtain⟨j,hj⟩:=List.mem_iff_getElem?.1 hv
   rw[List.getElem?_take]at hj;split at hj
   ·exact(h j v hj).2.1
   ·simp at hj
  ·rw[List.getElem?_take]at h1
   split at h1
   ·rename_i hlt
    have:=(h j v h1).2.2;simp[hlt]at h2;rw[<-h2];exact this
   ·simp at h1
 |false=>
  simp at hc;have:=h 0 v hc;exact⟨U 0,this.2.2,by simp,fun _=>⟨rfl,this.1⟩⟩
end Go.Proofs.YtbcbkiaineacpaaGreat.VS
namespace Go.Proofs.YtbcbkiaineacpaaGreat.VS
variable {P:Program} {fid:Nat->FuncId} {g:Gh} {w:World}
def Yields(P:Program)(fid:Nat->FuncId)(g:Gh)(w:World)(a:Act)(o:Oper)(v:AV):Prop:=
 ∃u,(execOp a.eval o).run P w= .ok (.value u) w/\AVR fid g w v u
section
variable {a:Act} {r:List (Nat×AV)} (hr:qef fid g w r a.tmps)
include hr
theorem qQi{o:Oper}{x:VX}{v:AV}(h:qa4 P fid o.op (.move x)=true)(hv:x.get r=some v):Yields P fid g w a o v:=by
 obtain⟨dst,op,ty,pos,after,guard⟩:=o;cases op with
 |move y=>exact⟨_,rfl,qas hr (by simpa[qa4]using h) hv⟩
 |assign y=>exact⟨_,rfl,qas hr (by simpa[qa4]using h) hv⟩
 |_=>simp[qa4]at h
theorem qQh{o:Oper}{c x y:VX}{v:AV}(h:qa4 P fid o.op (.pick c x y)=true)(hv:evP r (.pick c x y)=some v):Yields P fid g w a o v:=by
 obtain⟨dst,op,ty,pos,after,guard⟩:=o;cases op with
 |pick c' x' y'=>
  simp[qa4]at h;simp only[evP]at hv;split at hv
  ·rename_i hc
   have:=qdl (qas hr h.1.1 hc);refine⟨_,?_,qas hr h.1.2 hv⟩;simp[execOp,this,asBool]
  ·rename_i hc
   have:=qdl (qas hr h.1.1 hc);refine⟨_,?_,qas hr h.2 hv⟩;simp[execOp,this,asBool]
  ·simp at hv
 |_=>simp[qa4]at h
theorem qxU{o:Oper}{x:VX}{v:AV}(h:qa4 P fid o.op (.nilCheck x)=true)(hv:evP r (.nilCheck x)=some v):Yields P fid g w a o v:=by
 obtain⟨dst,op,ty,pos,after,guard⟩:=o;cases op with
 |nilCheck y=>
  simp[qa4]at h;simp only[evP]at hv;split at hv
  all_goals (try (simp at hv;done))
  all_goals
   rename_i hx;simp at hv;subst hv;have hu:=qas hr h hx;refine⟨_,?_,hu⟩;generalize hq:a.eval y=q at hu;cases hu<;>simp_all[execOp]
 |_=>simp[qa4]at h
theorem qVT{o:Oper}{x:VX}{v:AV}(h:qa4 P fid o.op (.not x)=true)(hv:evP r (.not x)=some v):Yields P fid g w a o v:=by
 obtain⟨dst,op,ty,pos,after,guard⟩:=o;cases op with
 |unOp u t y=>
  cases u with
  |not=>
   simp[qa4]at h;simp only[evP]at hv;split at hv
   ·rename_i b hx
    simp at hv;subst hv
    have:=qdl (qas hr h hx);exact⟨.bool !b,by simp[execOp,this,Op.unary],.d _ _ (.bool _)⟩
   ·simp at hv
  |_=>simp[qa4]at h
 |_=>simp[qa4]at h
theorem qxV{o:Oper}{f:Nat}{cs:List VX}{v:AV}(h:qa4 P fid o.op (.makeFunc f cs)=true)(hv:evP r (.makeFunc f cs)=some v):Yields P fid g w a o v:=by
 obtain⟨dst,op,ty,pos,after,guard⟩:=o;cases op with
 |makeFunc fn first caps=>
  cases fn with
  |func f'=>
   simp[qa4]at h;obtain⟨⟨rfl,rfl⟩,h3⟩:=h;simp only[evP]at hv;obtain⟨vs,h4,rfl⟩:=ya_.1 hv;obtain⟨h5,h6⟩:=qhB hr h3 h4;refine⟨.func (.func (fid f)) #[] (caps.map a.eval),by simp[execOp,Instr.makeFunc],.fn _ _ _ (by simpa using h5.symm) fun j v u h7 h8=> ?_⟩;simp at h8;obtain⟨o',h9,rfl⟩:=h8;exact h6 j v o' h7 (by simpa using h9)
  |_=>simp[qa4]at h
 |_=>simp[qa4]at h
theorem qz4{o:Oper}{x:VX}{i:Nat}{v:AV}(h:qa4 P fid o.op (.extract x i)=true)(hv:evP r (.extract x i)=some v):Yields P fid g w a o v:=by
 obtain⟨dst,op,ty,pos,after,guard⟩:=o;cases op with
 |extract y i'=>
  simp[qa4]at h;obtain⟨h1,rfl⟩:=h;simp only[evP]at hv;split at hv
  ·rename_i vs hx
   obtain⟨d,h2,rfl⟩:=ya_.1 hv;have hu:=qee (qas hr h1 hx);generalize hq:a.eval y=q at hu;cases hu with
   |tup _ us hs hall=>
    have hlt:i'<us.size:=by have:=(List.getElem?_eq_some_iff.1 h2).1;omega
    exact⟨us[i'],by simp[execOp,hq,Instr.extract,hlt],.d _ _ (hall i' d _ h2 (by simp[hlt]))⟩
  ·rename_i vs hx
   have hu:=qas (w:=w) hr h1 hx;generalize hq:a.eval y=q at hu;cases hu with
   |tp _ us hs hall=>
    have hlt:i'<us.size:=by have:=(List.getElem?_eq_some_iff.1 hv).1;omega
    exact⟨us[i'],by simp[execOp,hq,Instr.extract,hlt],hall i' v _ hv (by simp[hlt])⟩
  ·simp at hv
 |_=>simp[qa4]at h
theorem qsc{o:Oper}{x:VX}{off:Nat}{v:AV}(h:qa4 P fid o.op (.fieldAddr off x)=true)(hv:evP r (.fieldAddr off x)=some v):Yields P fid g w a o v:=by
 obtain⟨dst,op,ty,pos,after,guard⟩:=o;cases op with
 |fieldAddr t y f=>
  simp only[qa4,Bool.and_eq_true]at h;obtain⟨h1,h2⟩:=h;split at h2
  ·rename_i fs hfs
   split at h2
   ·rename_i fd hf
    simp only[Bool.and_eq_true,decide_eq_true_eq]at h2;obtain⟨rfl,h3⟩:=h2;split at h3
    ·rename_i sz hsz
     simp at h3;have hu:P.underlying t=some (.struct fs):=by
      unfold fieldsOf at hfs;split at hfs
      ·rename_i hq;simp at hfs;subst hfs;exact hq
      ·simp at hfs
     obtain⟨ti,hti,hsz'⟩:∃ti,P.info? fd.type=some ti/\ti.size=sz:=by
      unfold qe1 at hsz;obtain⟨ti,h4,h5⟩:=ya_.1 hsz;exact⟨ti,h4,h5⟩
     have hrun:∀ad:Addr,a.eval y= .pointer (some ad)->(execOp a.eval ⟨dst,.fieldAddr t y f,ty,pos,after,guard⟩).run P w= .ok (.value (.pointer (some (ad.add fd.offset)))) w:=by
      intro ad had;simp[execOp,Instr.fieldAt,underlying,hu,hf,Instr.sureAddr,had,fieldPlace,sizeOf,typeInfo,hti,hsz',h3]
     simp only[evP]at hv;split at hv
     ·rename_i b o hx
      simp at hv;subst hv
      obtain⟨blk,hb,he⟩:=qeu (qas hr h1 hx);refine⟨_,hrun _ he,?_⟩;have:(⟨blk,o,none⟩:Addr).add fd.offset=⟨blk,o+fd.offset,none⟩:=by unfold Addr.add;split<;>simp_all
      rw[this];exact .ptr _ _ _ hb
     ·rename_i cs hx
      simp at hv;obtain⟨hlen,rfl⟩:=hv;have hu':=qas hr h1 hx;generalize hq:a.eval y=q at hu';cases hu' with
      |ep _ ad U hs hK hc=>
       ·refine⟨_,hrun _ hq,.ep _ _ (fun j=>U (fd.offset+j)) ?_ ?_ fun j v hj=> ?_⟩
        ·unfold Addr.add;split<;>simp_all
        ·rw[qiU,add_block];simp;omega
        ·rw[List.getElem?_drop]at hj
         have:=hc _ _ hj;have e:(ad.add fd.offset).add j=ad.add (fd.offset+j):=by
          unfold Addr.add;split<;>split<;>split<;>simp_all<;>omega
         rw[e];exact this
     ·simp at hv
    ·simp at h3
   ·simp at h2
  ·simp at h2
 |_=>simp[qa4]at h
omit hr in
theorem add_add(ad:Addr)(i j:Nat)(h:ad.spot=none):(ad.add i).add j=ad.add (i+j):=by
 unfold Addr.add;split<;>split<;>split<;>simp_all<;>omega
theorem qsb{o:Oper}{sz:Nat}{x i:VX}{v:AV}(h:qa4 P fid o.op (.indexAddr sz none x i)=true)(hv:evP r (.indexAddr sz none x i)=some v):Yields P fid g w a o v:=by
 obtain⟨dst,op,ty,pos,after,guard⟩:=o;cases op with
 |indexAddr t y j=>
  simp only[qa4,Bool.and_eq_true]at h;obtain⟨⟨h1,h2⟩,h3⟩:=h;split at h3
  ·rename_i e he
   simp at h3;have hu:P.underlying t=some (.slice e):=by
    unfold qrj at he;split at he
    ·rename_i hq;simp at he;subst he;exact hq
    ·simp at he
   obtain⟨ti,hti,hsz⟩:∃ti,P.info? e=some ti/\ti.size=sz:=by
    unfold qe1 at h3;obtain⟨ti,h4,h5⟩:=ya_.1 h3;exact⟨ti,h4,h5⟩
   simp only[evP]at hv;split at hv
   ·rename_i tg xs k n hx hi
    split at hv
    ·rename_i hn
     obtain⟨el,hel,hv⟩:=yb_.1 hv;split at hv
     ·rename_i hlen
      obtain⟨hlen,hz⟩:=hlen;simp at hv;subst hv
      have hu1:=qee (qas hr h1 hx);have hu2:=qcC (qas hr h2 hi);have hlt:n.toNat<xs.length:=(List.getElem?_eq_some_iff.1 hel).1;generalize hq:a.eval y=q at hu1;cases hu1 with
      |nil=>simp at hlt
      |row _ _ ad c s U ht hl hm hcell hK hcs hvs hown=>
       have hs:s=sz:=by have:=(hcs _ _ hel).1;omega
       subst hs;have hsp:ad.spot=none:=by
        have:=hcell 0 (Nat.mul_pos (by omega) (by omega));unfold World.cell? Addr.add at this;simp at this;split at this
        ·split at this
         ·simp at this
         ·rename_i hh;simpa using hh
        ·simp at this
       have hlt':n<(xs.length:Int):=by omega
       refine⟨.pointer (some (ad.add (n.toNat*s))),?_,?_⟩
       ·simp[execOp,Instr.indexAt,hq,hu2,asIntOf,underlying,hu,sizeOf,typeInfo,hti,hsz]
        simp[hn];intro hh;omega
       ·refine .ep _ _ (fun j=>U (n.toNat*s+j)) ?_ ?_ fun j v hj=> ?_
        ·unfold Addr.add;split<;>simp_all
        ·rw[qiU,add_block]
         have:n.toNat*s+s<=xs.length*s:=by have:=Nat.mul_le_mul_right s (show n.toNat+1<=xs.length by omega);rw[Nat.add_mul]at this;omega
         omega
        ·have hjs:j<s:=by have:=(List.getElem?_eq_some_iff.1 hj).1;omega
         have hlt2:n.toNat*s+j<xs.length*s:=by have:=Nat.mul_le_mul_right s (show n.toNat+1<=xs.length by omega);rw[Nat.add_mul]at this;omega
         rw[add_add _ _ _ hsp];exact⟨hcell _ hlt2,(hcs _ _ hel).2 v (List.mem_of_getElem? hj),hvs _ _ _ _ hel hj⟩
     ·simp at hv
    ·simp at hv
   ·rename_i id ag b sz' n kk nn hx hi
    split at hv
    ·rename_i hc
     obtain⟨rfl,hn,hlt⟩:=hc;simp at hv;subst hv
     have hu1:=qas hr h1 hx;have hu2:=qcC (qas hr h2 hi);generalize hq:a.eval y=q at hu1;cases hu1 with
     |bsl _ _ _ _ _ blk hb=>
      refine⟨.pointer (some ((⟨blk,0,none⟩:Addr).add (nn.toNat*sz'))),?_,?_⟩
      ·simp[execOp,Instr.indexAt,hq,hu2,asIntOf,underlying,hu,sizeOf,typeInfo,hti,hsz]
       simp[hn];intro hh;omega
      ·have:(⟨blk,0,none⟩:Addr).add (nn.toNat*sz')=⟨blk,nn.toNat*sz',none⟩:=by unfold Addr.add;split<;>simp_all
       rw[this];exact .ptr _ _ _ hb
    ·simp at hv
   ·rename_i ag b sz' n kk nn hx hi
    split at hv
    ·rename_i hc
     obtain⟨rfl,hn,hlt⟩:=hc;simp at hv;subst hv
     have hu1:=qas (w:=w) hr h1 hx;have hu2:=qcC (qas hr h2 hi);generalize hq:a.eval y=q at hu1;cases hu1 with
     |tsl _ _ _ _ cc blk hb hc1 hc2=>
      refine⟨.pointer (some ((⟨blk,0,none⟩:Addr).add (nn.toNat*sz'))),?_,?_⟩
      ·simp[execOp,Instr.indexAt,hq,hu2,asIntOf,underlying,hu,sizeOf,typeInfo,hti,hsz]
       simp[hn];intro hh;omega
      ·have:(⟨blk,0,none⟩:Addr).add (nn.toNat*sz')=⟨blk,nn.toNat*sz',none⟩:=by unfold Addr.add;split<;>simp_all
       rw[this];exact .ptr _ _ _ hb
    ·simp at hv
   ·simp at hv
  ·simp at h3
 |_=>simp[qa4]at h
theorem qxW{o:Oper}{sz m:Nat}{x i:VX}{v:AV}(h:qa4 P fid o.op (.indexAddr sz (some m) x i)=true)(hv:evP r (.indexAddr sz (some m) x i)=some v):Yields P fid g w a o v:=by
 obtain⟨dst,op,ty,pos,after,guard⟩:=o;cases op with
 |indexAddr t y j=>
  simp only[qa4,Bool.and_eq_true]at h;obtain⟨⟨h1,h2⟩,h3⟩:=h;split at h3
  ·rename_i n e he
   simp at h3;obtain⟨rfl,h3⟩:=h3;have hu:P.underlying t=some (.array n e):=by
    unfold arrayOf at he;split at he
    ·rename_i hq;simp at he;obtain⟨rfl,rfl⟩:=he;exact hq
    ·simp at he
   obtain⟨ti,hti,hsz⟩:∃ti,P.info? e=some ti/\ti.size=sz:=by
    unfold qe1 at h3;obtain⟨ti,h4,h5⟩:=ya_.1 h3;exact⟨ti,h4,h5⟩
   have hrun:∀(ad:Addr) (k:IntKind) (q:Int),a.eval y= .pointer (some ad)->a.eval j= .int k q->0<=q->q<(n:Int)->
    (execOp a.eval ⟨dst,.indexAddr t y j,ty,pos,after,guard⟩).run P w= .ok (.value (.pointer (some (ad.add (q.toNat*sz))))) w:=by
    intro ad k q h4 h5 h6 h7;simp[execOp,Instr.indexAt,h4,h5,asIntOf,underlying,hu,sizeOf,typeInfo,hti,hsz,Instr.sureAddr];simp[h6];intro hh;omega
   simp only[evP]at hv;split at hv
   ·rename_i b off k q hx hi
    split at hv
    ·rename_i hc
     simp at hv;subst hv
     obtain⟨blk,hb,he'⟩:=qeu (qas hr h1 hx);refine⟨_,hrun _ _ _ he' (qcC (qas hr h2 hi)) hc.1 hc.2,?_⟩;have:(⟨blk,off,none⟩:Addr).add (q.toNat*sz)=⟨blk,off+q.toNat*sz,none⟩:=by unfold Addr.add;split<;>simp_all
     rw[this];exact .ptr _ _ _ hb
    ·simp at hv
   ·rename_i cs k q hx hi
    split at hv
    ·rename_i hc
     simp at hv;subst hv
     have hu':=qas hr h1 hx;generalize hq:a.eval y=qq at hu';cases hu' with
     |ep _ ad U hs hK hcc=>
      refine⟨_,hrun _ _ _ hq (qcC (qas hr h2 hi)) hc.1 hc.2.1,.ep _ _ (fun j=>U (q.toNat*sz+j)) ?_ ?_ fun j v hj=> ?_⟩
      ·unfold Addr.add;split<;>simp_all
      ·rw[qiU,add_block];simp;omega
      ·rw[List.getElem?_drop]at hj
       rw[add_add _ _ _ hs];exact hcc _ _ hj
    ·simp at hv
   ·simp at hv
  ·simp at h3
 |_=>simp[qa4]at h
theorem qVU{o:Oper}{str:Bool}{x:VX}{v:AV}(h:qa4 P fid o.op (.len str x)=true)(hv:evP r (.len str x)=some v):Yields P fid g w a o v:=by
 obtain⟨dst,op,ty,pos,after,guard⟩:=o;cases op with
 |call c=>
  obtain⟨callee,args,argTypes⟩:=c;cases callee with
  |builtin b=>
   cases b with
   |len=>
    simp only[qa4]at h;split at h
    ·rename_i y t ha ht
     simp only[Bool.and_eq_true]at h;obtain⟨h1,h2⟩:=h;have hargs:args= #[y]:=by cases args;simp_all
     have htys:argTypes= #[t]:=by cases argTypes;simp_all
     subst hargs;subst htys
     have hu:=fun v hx=>qas (w:=w) hr h1 (v:=v) hx
     cases str with
     |true=>
      simp only[evP]at hv;split at hv
      ·rename_i s hx
       simp at hv;subst hv
       have:=ql3 (hu _ hx);refine⟨.int .i64 s.size,?_,.d _ _ (.int _ _)⟩;split at h2
       ·rename_i hd;simp[execOp,resolve,invoke,builtin,Builtin.len_,this,underlying,hd,goInt]
       ·simp at h2
       ·simp at h2
      ·simp at hv
     |false=>
      simp only[evP]at hv;split at hv
      ·rename_i tg xs hx
       simp at hv;subst hv
       have hh:=qee (hu _ hx);generalize hq:a.eval y=q at hh;refine⟨.int .i64 xs.length,?_,.d _ _ (.int _ _)⟩;split at h2
       ·simp at h2
       ·rename_i e hd
        cases hh<;>simp[execOp,resolve,invoke,builtin,Builtin.len_,hq,underlying,hd,goInt]
       ·simp at h2
      ·rename_i id ag i sz n hx
       simp at hv;subst hv
       have hh:=hu _ hx;generalize hq:a.eval y=q at hh;refine⟨.int .i64 n,?_,.d _ _ (.int _ _)⟩;split at h2
       ·simp at h2
       ·rename_i e hd
        cases hh<;>simp[execOp,resolve,invoke,builtin,Builtin.len_,hq,underlying,hd,goInt]
       ·simp at h2
      ·rename_i ag i sz n hx
       simp at hv;subst hv
       have hh:=hu _ hx;generalize hq:a.eval y=q at hh;refine⟨.int .i64 n,?_,.d _ _ (.int _ _)⟩;split at h2
       ·simp at h2
       ·rename_i e hd
        cases hh<;>simp[execOp,resolve,invoke,builtin,Builtin.len_,hq,underlying,hd,goInt]
       ·simp at h2
      ·simp at hv
    ·simp at h
   |_=>simp[qa4]at h
  |_=>simp[qa4]at h
 |_=>simp[qa4]at h
theorem qVW{o:Oper}{b:BinOp}{x y:VX}{v:AV}(h:qa4 P fid o.op (.bin b x y)=true)(hv:evP r (.bin b x y)=some v):Yields P fid g w a o v:=by
 obtain⟨dst,op,ty,pos,after,guard⟩:=o;cases op with
 |unOp u t z=>
  cases u with
  |neg=>
   cases x with
   |t n=>simp[qa4]at h
   |c cv=>
    cases cv with
    |d dv=>
     cases dv with
     |int k n=>
      simp only[qa4,Bool.and_eq_true,decide_eq_true_eq]at h;obtain⟨⟨rfl,rfl⟩,h1⟩:=h;simp only[evP,VX.get]at hv;split at hv
      ·rename_i da db hx hy
       simp at hx;subst hx
       obtain⟨d,hd,rfl⟩:=ya_.1 hv;have u2:=qas (w:=w) hr h1 hy;cases db with
       |int k' n=>
        have e2:=qcC u2;simp only[qeM]at hd;split at hd
        ·rename_i hk
         subst hk;simp only[qdN,Option.some.injEq]at hd;subst hd;exact⟨_,by simp[execOp,e2,Op.unary,Op.intArith],.d _ _ (.int _ _)⟩
        ·simp at hd
       |_=>simp[qeM]at hd
      ·simp at hv
     |_=>simp[qa4]at h
    |_=>simp[qa4]at h
  |_=>simp[qa4]at h
 |binOp b' t x' y' ty'=>
  simp only[qa4,Bool.and_eq_true,decide_eq_true_eq]at h;obtain⟨⟨⟨rfl,h1⟩,h2⟩,h3⟩:=h;simp only[evP]at hv;split at hv
  ·rename_i da db hx hy
   obtain⟨d,hd,rfl⟩:=ya_.1 hv;have u1:=qas (w:=w) hr h1 hx;have u2:=qas (w:=w) hr h2 hy;cases da with
   |int k m=>
    cases db with
    |int k' n=>
     have e1:=qcC u1;have e2:=qcC u2;have hg:(eqGuard b' t x' y' (a.eval x') (a.eval y')).run P w= .ok () w:=by
      rw[e1,e2];unfold eqGuard;split<;>simp
     cases b'<;>simp only[qeM]at hd
     all_goals (first
      |(split at hd<;>first|(simp at hd;done)|skip)
      |skip)
     all_goals (try (rename_i hk;subst hk))
     all_goals (simp only[qdN,cmp,bits,Option.map_some]at hd)
     all_goals (try (split at hd))
     all_goals (try (simp at hd;done))
     all_goals (simp only[Option.some.injEq]at hd;subst hd)
     all_goals (refine⟨_,?_,.d _ _ (by constructor)⟩)
     all_goals (simp_all[execOp,binOp,Op.shift,Op.intArith,Op.intDiv,Op.intBits,Op.intCmp])
     all_goals (intro hh;omega)
    |_=>cases b'<;>simp[qeM]at hd
   |str s=>
    cases db with
    |str s'=>
     have e1:=ql3 u1;have e2:=ql3 u2;have hg:(eqGuard b' t x' y' (a.eval x') (a.eval y')).run P w= .ok () w:=by
      rw[e1,e2];unfold eqGuard;split<;>simp
     cases b'<;>simp only[qeM]at hd
     all_goals (try (simp at hd;done))
     ·split at hd
      ·rename_i hlen
       simp only[Option.some.injEq]at hd;subst hd
       refine⟨_,?_,.d _ _ (by constructor)⟩;have:¬(((s.size+s'.size:Nat):Int)>IntKind.i64.max):=by
        have:IntKind.i64.max=9223372036854775807:=by decide
        omega
       rw[e1,e2]at hg;have hle:¬(9223372036854775807<(s.size:Int)+(s'.size:Int)):=by omega
       simp[execOp,binOp,Op.stringOp,e1,e2,hg,hle,IntKind.max,IntKind.signed,IntKind.bits]
      ·simp at hd
     all_goals (simp only[Option.some.injEq]at hd;subst hd)
     all_goals (refine⟨_,?_,.d _ _ (by constructor)⟩)
     all_goals (simp_all[execOp,binOp,Op.stringOp,qfP])
    |_=>simp[qeM]at hd
   |_=>simp[qeM]at hd
  ·simp at hv
 |_=>simp[qa4]at h
end
end Go.Proofs.YtbcbkiaineacpaaGreat.VS
namespace Go.Proofs.YtbcbkiaineacpaaGreat.VS
variable {P:Program} {fid:Nat->FuncId} {g:Gh} {w:World}
theorem qza{t:TypeId}(hu:P.underlying t=some .bool)(a b:Bool):(Op.equal t (.bool a) (.bool b)).run P w= .ok (a==b) w:=by
 have e:Op.equal t (.bool a) (.bool b)=Op.equalIn (9999+1) t (.bool a) (.bool b):=rfl;rw[e,Op.equalIn];simp[underlying,hu]
section
variable {a:Act} {r:List (Nat×AV)} (hr:qef fid g w r a.tmps)
include hr
theorem qVV{o:Oper}{neg:Bool}{x y:VX}{v:AV}(h:qa4 P fid o.op (.eqB neg x y)=true)(hv:evP r (.eqB neg x y)=some v):Yields P fid g w a o v:=by
 obtain⟨dst,op,ty,pos,after,guard⟩:=o;cases op with
 |binOp b' t x' y' ty'=>
  simp only[qa4,Bool.and_eq_true,decide_eq_true_eq]at h;obtain⟨⟨⟨hb,h1⟩,h2⟩,h3⟩:=h;split at h3
  ·rename_i hu
   simp only[evP]at hv;split at hv
   ·rename_i da db hx hy
    simp at hv;subst hv
    have e1:=qdl (qas (w:=w) hr h1 hx);have e2:=qdl (qas (w:=w) hr h2 hy);have hg:(eqGuard b' t x' y' (.bool da) (.bool db)).run P w= .ok () w:=by unfold eqGuard;split<;>simp
    refine⟨_,?_,.d _ _ (.bool _)⟩;cases neg<;>simp at hb<;>subst hb<;>simp[execOp,e1,e2,hg,binOp,qza hu]
   ·simp at hv
  ·simp at h3
 |_=>simp[qa4]at h
theorem qQj{o:Oper}{k:IntKind}{x:VX}{v:AV}(h:qa4 P fid o.op (.conv (.kind k) x)=true)(hv:evP r (.conv (.kind k) x)=some v):Yields P fid g w a o v:=by
 obtain⟨dst,op,ty,pos,after,guard⟩:=o;cases op with
 |convert src dst' y=>
  simp only[qa4,Bool.and_eq_true,decide_eq_true_eq]at h;obtain⟨⟨h1,h2⟩,h3⟩:=h;have hd:P.underlying dst'=some (.int k):=by
   unfold qID at h3;split at h3
   ·rename_i hq;simp at h3;subst h3;exact hq
   ·simp at h3
  obtain⟨k0,hs⟩:∃k0,P.underlying src=some (.int k0):=by
   unfold isInt at h2;split at h2
   ·rename_i k0 hq;exact⟨k0,hq⟩
   ·simp at h2
  simp only[evP]at hv;split at hv
  ·rename_i kk n hx
   simp at hv;subst hv
   have e1:=qcC (qas (w:=w) hr h1 hx);refine⟨_,?_,.d _ _ (.int _ _)⟩;simp[execOp,convert,e1,underlying,hd,hs,Conv.intToInt]
  ·simp at hv
 |_=>simp[qa4]at h
theorem qQg{o:Oper}{x:VX}{v:AV}(h:qa4 P fid o.op (.conv .rune x)=true)(hv:evP r (.conv .rune x)=some v):Yields P fid g w a o v:=by
 obtain⟨dst,op,ty,pos,after,guard⟩:=o;cases op with
 |convert src dst' y=>
  simp only[qa4,Bool.and_eq_true]at h;obtain⟨⟨h1,h2⟩,h3⟩:=h;have hd:P.underlying dst'=some .string:=by
   unfold qyW at h3;split at h3
   ·rename_i hq;exact hq
   ·simp at h3
  obtain⟨k0,hs⟩:∃k0,P.underlying src=some (.int k0):=by
   unfold isInt at h2;split at h2
   ·rename_i k0 hq;exact⟨k0,hq⟩
   ·simp at h2
  simp only[evP]at hv;split at hv
  ·rename_i kk n hx
   simp at hv;subst hv
   have e1:=qcC (qas (w:=w) hr h1 hx);refine⟨_,?_,.d _ _ (.str _)⟩;simp[execOp,convert,e1,underlying,hd,hs,Conv.intToString]
  ·simp at hv
 |_=>simp[qa4]at h
theorem qMn{o:Oper}{x i:VX}{v:AV}(h:qa4 P fid o.op (.index x i)=true)(hv:evP r (.index x i)=some v):Yields P fid g w a o v:=by
 obtain⟨dst,op,ty,pos,after,guard⟩:=o;cases op with
 |index t y j=>
  simp only[qa4,Bool.and_eq_true]at h;obtain⟨⟨h3,h1⟩,h2⟩:=h;have hd:P.underlying t=some .string:=by
   unfold qyW at h3;split at h3
   ·rename_i hq;exact hq
   ·simp at h3
  simp only[evP]at hv;split at hv
  ·rename_i s k n hx hi
   split at hv
   ·rename_i hn
    obtain⟨b,hb,rfl⟩:=ya_.1 hv;unfold qlQ at hb;obtain⟨c,hc,rfl⟩:=ya_.1 hb;have e1:=ql3 (qas (w:=w) hr h1 hx);have e2:=qcC (qas (w:=w) hr h2 hi);refine⟨.int .u8 c.toNat,?_,.d _ _ (.int _ _)⟩;simp[execOp,Instr.index,e1,e2,asIntOf,underlying,hd,hn,hc]
   ·simp at hv
  ·simp at hv
 |_=>simp[qa4]at h
theorem qUo{len cap:Nat}{hi:Option AV}{h':Nat}(hh:qbV len hi=some h')(hlc:len<=cap){oh:Option Operand}{xh:Option VX}(ho:qzX fid oh xh=true)(hg:qhO r xh=some hi)(isS:Bool):
 (match (oh.map a.eval:Option Value)with
  |some v=>Instr.sliceBound v cap (if isS then .sliceAcap else .sliceAlen)
  |none=>pure len).run P w= .ok h' w/\h'<=len:=by
 cases oh with
 |none=>
  cases xh with
  |none=>
   simp[qhO]at hg;subst hg
   simp[qbV]at hh;subst hh
   exact⟨by simp,Nat.le_refl _⟩
  |some x=>simp[qzX]at ho
 |some o=>
  cases xh with
  |none=>simp[qzX]at ho
  |some x=>
   simp[qzX]at ho;simp[qhO]at hg;obtain⟨v,hv,rfl⟩:=hg;simp only[qbV]at hh;obtain⟨n,hn,hh⟩:=yb_.1 hh;split at hh
   ·rename_i hc
    simp at hh;subst hh
    unfold qmg at hn;split at hn
    ·rename_i k m
     simp at hn;subst hn
     have e:=qcC (qas (w:=w) hr ho hv);refine⟨?_,hc.2⟩;simp[e,Instr.sliceBound,asIntOf,hc.1];intro hx;omega
    ·simp at hn
   ·simp at hh
theorem qUb{h':Nat}{lo:Option AV}{l':Nat}(hh:qbU h' lo=some l'){ol:Option Operand}{xl:Option VX}(ho:qzX fid ol xl=true)(hg:qhO r xl=some lo)(code:BoundsCode):
 (match (ol.map a.eval:Option Value)with
  |some v=>Instr.sliceBound v h' code
  |none=>pure 0).run P w= .ok l' w/\l'<=h':=by
 cases ol with
 |none=>
  cases xl with
  |none=>
   simp[qhO]at hg;subst hg
   simp[qbU]at hh;subst hh
   exact⟨by simp,Nat.zero_le _⟩
  |some x=>simp[qzX]at ho
 |some o=>
  cases xl with
  |none=>simp[qzX]at ho
  |some x=>
   simp[qzX]at ho;simp[qhO]at hg;obtain⟨v,hv,rfl⟩:=hg;simp only[qbU]at hh;obtain⟨n,hn,hh⟩:=yb_.1 hh;split at hh
   ·rename_i hc
    simp at hh;subst hh
    unfold qmg at hn;split at hn
    ·rename_i k m
     simp at hn;subst hn
     have e:=qcC (qas (w:=w) hr ho hv);refine⟨?_,hc.2⟩;simp[e,Instr.sliceBound,asIntOf,hc.1];intro hx;omega
    ·simp at hn
   ·simp at hh
theorem qiQ{len cap:Nat}{lo hi:Option AV}{l' h':Nat}(hh:qbV len hi=some h')(hl:qbU h' lo=some l')(hlc:len<=cap){ol oh:Option Operand}{xl xh:Option VX}
 (ho:qzX fid oh xh=true) (hg:qhO r xh=some hi) (hol:qzX fid ol xl=true) (hgl:qhO r xl=some lo) (isS:Bool):
 (Instr.sliceBounds isS len cap (ol.map a.eval) (oh.map a.eval) none).run P w= .ok (l',h',cap) w/\h'<=len/\l'<=h':=by
 obtain⟨h1,h2⟩:=qUo (P:=P) (w:=w) hr hh hlc ho hg isS;obtain⟨h3,h4⟩:=qUb (P:=P) (w:=w) hr hl hol hgl .sliceB;refine⟨?_,h2,h4⟩;cases oh<;>cases ol<;>simp only[Option.map_some,Option.map_none]at h1 h3⊢<;>simp[Instr.sliceBounds]<;>(try simp at h1)<;>(try simp at h3)
 ·exact⟨h3,h1⟩
 ·subst h1;rw[h3];simp
 ·rw[h1];simp[h3]
 ·rw[h1];simp[h3]
theorem qGr{o:Oper}{sz:Nat}{x:VX}{lo hi:Option VX}{v:AV}(h:qa4 P fid o.op (.slice true sz x lo hi)=true)(hv:evP r (.slice true sz x lo hi)=some v):Yields P fid g w a o v:=by
 obtain⟨dst,op,ty,pos,after,guard⟩:=o;cases op with
 |slice t y l' h' m=>
  cases m with
  |some m=>simp[qa4]at h
  |none=>
   simp only[qa4,Bool.and_eq_true]at h;obtain⟨⟨⟨h1,h2⟩,h3⟩,h4⟩:=h;split at h4
   ·rename_i hu
    simp only[evP]at hv;split at hv
    ·rename_i s vl vh hx hl hh
     obtain⟨hn,h5,hv⟩:=yb_.1 hv;obtain⟨ln,h6,rfl⟩:=ya_.1 hv;have e1:=ql3 (qas (w:=w) hr h1 hx);obtain⟨hb,_,_⟩:=qiQ (P:=P) (w:=w) hr h5 h6 (Nat.le_refl _) h3 hh h2 hl false;refine⟨.string (s.extract ln hn),?_,.d _ _ (.str _)⟩;simp[execOp,Instr.sliceAt,Instr.slice,underlying,hu,e1,hb]
    ·simp at hv
   ·simp at h4
   ·simp at h4
 |_=>simp[qa4]at h
theorem qGs{o:Oper}{sz:Nat}{x:VX}{lo hi:Option VX}{v:AV}(h:qa4 P fid o.op (.slice false sz x lo hi)=true)(hv:evP r (.slice false sz x lo hi)=some v):Yields P fid g w a o v:=by
 obtain⟨dst,op,ty,pos,after,guard⟩:=o;cases op with
 |slice t y l' h' m=>
  cases m with
  |some m=>simp[qa4]at h
  |none=>
   simp only[qa4,Bool.and_eq_true]at h;obtain⟨⟨⟨h1,h2⟩,h3⟩,h4⟩:=h;split at h4
   ·simp at h4
   ·rename_i e hu
    simp at h4;obtain⟨ti,hti,hsz⟩:∃ti,P.info? e=some ti/\ti.size=sz:=by
     unfold qe1 at h4;obtain⟨ti,h4,h5⟩:=ya_.1 h4;exact⟨ti,h4,h5⟩
    simp only[evP]at hv;split at hv
    ·rename_i tg xs vl vh hx hl hh
     split at hv
     ·rename_i hall
      obtain⟨hn,h5,hv⟩:=yb_.1 hv;obtain⟨ln,h6,rfl⟩:=ya_.1 hv;have hrel:=qee (qas (w:=w) hr h1 hx);generalize hq:a.eval y=q at hrel;cases hrel with
      |nil=>
       obtain⟨hb,h7,h8⟩:=qiQ (P:=P) (w:=w) hr h5 h6 (Nat.le_refl _) h3 hh h2 hl true;simp at h7;subst h7;simp at h8;subst h8
       refine⟨.slice none 0 0,?_,.d _ _ (by simpa using VR.nil)⟩;simp at hb;simp[execOp,Instr.sliceAt,Instr.slice,underlying,hu,hq,hb,sizeOf,typeInfo,hti]
      |row _ _ ad c s U ht hlen hm hcell hK hcs hvs hown=>
       obtain⟨hb,h7,h8⟩:=qiQ (P:=P) (w:=w) (cap:=c) hr h5 h6 hlen h3 hh h2 hl true;have hs:xs≠[]->s=sz:=by
        intro hne;obtain⟨e0,he0⟩:=List.exists_mem_of_ne_nil xs hne;obtain⟨i,hi⟩:=List.mem_iff_getElem?.1 he0;have h9:=(hcs i e0 hi).1;have h10:=(List.all_eq_true.1 hall) e0 he0;simp at h10;omega
       have hl2:((xs.take hn).drop ln).length=hn-ln:=by simp;omega
       refine⟨.slice (some (if c=ln then ad else ad.add (ln*sz))) (hn-ln) (c-ln),?_,.d _ _ ?_⟩
       ·simp[execOp,Instr.sliceAt,Instr.slice,underlying,hu,hq,hb,sizeOf,typeInfo,hti,hsz]
        split<;>simp
       ·have hif:(if tg=Tag.nil then Tag.nil else Tag.sub)=Tag.sub:=if_neg ht
        rw[hif,<-hl2]
        by_cases hne:xs=[]
        ·subst hne
         simp at h7;subst h7;simp at h8;subst h8
         exact .row _ _ _ _ s U (by simp) (by simp) (by omega) (by simp) (by simp) (by simp) (by simp) (by simp)
        ·have hs:=hs hne
         subst hs
         by_cases hcl:c=ln
         ·have:(xs.take hn).drop ln=[]:=List.eq_nil_of_length_eq_zero (by omega)
          rw[this,if_pos hcl];exact .row _ _ _ _ s U (by simp) (by simp) (by omega) (by simp) (by simp) (by simp) (by simp) (by simp)
         ·rw[if_neg hcl]
          have hmul:hn*s<=xs.length*s:=Nat.mul_le_mul_right s h7;have hmul2:ln*s+(hn-ln)*s=hn*s:=by rw[<-Nat.add_mul];congr 1;omega
          have haddr:0<s->ad.spot=none:=by
           intro hs0;have:=hcell 0 (Nat.mul_pos (List.length_pos_iff.2 hne) hs0);unfold World.cell? Addr.add at this;simp at this;split at this
           ·split at this
            ·simp at this
            ·rename_i hh;simpa using hh
           ·simp at this
          refine .row _ _ _ _ s (fun k=>U (ln*s+k)) (by simp) (by omega) (by omega) (fun k hk=> ?_) ?_ (fun i x hi=> ?_) (fun i x j v hi hj=> ?_) (by simp)
          ·rw[hl2]at hk
           have hs0:0<s:=by
            rcases Nat.eq_zero_or_pos s with h0|h0
            ·rw[h0]at hk;simp at hk
            ·exact h0
           rw[add_add _ _ _ (haddr hs0)];exact hcell _ (by omega)
          ·rw[qiU,add_block,hl2];omega
          ·rw[List.getElem?_drop,List.getElem?_take]at hi
           split at hi
           ·exact hcs _ _ hi
           ·simp at hi
          ·rw[List.getElem?_drop,List.getElem?_take]at hi
           split at hi
           ·have:=hvs _ _ _ _ hi hj
            rw[Nat.add_mul,Nat.add_assoc]at this;exact this
           ·simp at hi
     ·simp at hv
    ·simp at hv
   ·simp at h4
 |_=>simp[qa4]at h
end
end Go.Proofs.YtbcbkiaineacpaaGreat.VS
namespace Go.Proofs.YtbcbkiaineacpaaGreat.VS
variable {P:Program} {fid:Nat->FuncId} {g:Gh} {w:World}
theorem qoy{t:TypeId}{sz:Nat}(h:qe1 P t=some sz):∃ti,P.info? t=some ti/\ti.size=sz:=by
 unfold qe1 at h;obtain⟨ti,h4,h5⟩:=ya_.1 h;exact⟨ti,h4,h5⟩
theorem qS8{t:TypeId}{b:Bool}(h:qqQ P t=some b):(isAgg t).run P w= .ok b w:=by
 unfold qqQ at h;obtain⟨d,h4,h5⟩:=ya_.1 h;simp[isAgg,underlying,h4];subst h5;cases d<;>simp
theorem qoz{t e:TypeId}(h:qrj P t=some e):P.underlying t=some (.slice e):=by
 unfold qrj at h;split at h
 ·rename_i hq;simp at h;subst h;exact hq
 ·simp at h
theorem qkf{t:TypeId}{d:TypeDesc}(h:P.underlying t=some d):(underlying t).run P w= .ok d w:=by simp[underlying,h]
theorem qnY{t:TypeId}{sz:Nat}(h:qe1 P t=some sz):(sizeOf t).run P w= .ok sz w:=by
 obtain⟨ti,h1,h2⟩:=qoy h;simp[sizeOf,typeInfo,h1,h2]
theorem qnt(f:Value->ByteArray->Sem (ForInStep ByteArray))(hf:∀n r,f (.int .u8 n) r=pure (ForInStep.yield (r.push (UInt8.ofNat n.toNat)))):∀(xs:List DV) (us:List Value) (bs:List UInt8) (s:ByteArray),bytesOf xs=some bs->us.length=xs.length->(∀(j:Nat) (v:DV) (u:Value),xs[j]?=some v->us[j]?=some u->VR g w v u)->
 (forIn us s f).run P w= .ok ⟨s.data++bs.toArray⟩ w
 | [],us,bs,s,hb,hl,_=>by
  simp[bytesOf]at hb;subst hb
  have:us=[]:=List.eq_nil_of_length_eq_zero (by simpa using hl);subst this;simp
 |x::xs,us,bs,s,hb,hl,hv=>by
  cases us with
  |nil=>simp at hl
  |cons u us=>
   have h0:=hv 0 x u rfl rfl;unfold bytesOf at hb;split at hb
   ·simp_all
   ·rename_i n r heq
    simp at heq;obtain⟨rfl,rfl⟩:=heq;obtain⟨bs',hb',rfl⟩:=ya_.1 hb;cases h0;have ih:=qnt f hf xs us bs' (s.push (UInt8.ofNat n.toNat)) hb' (by simpa using hl) (fun j v u h1 h2=>hv (j+1) v u (by simpa using h1) (by simpa using h2));simp only[List.forIn_cons,Sem.run_bind,hf,Sem.run_pure,Result.andThen_ok];rw[ih]
    congr 2
    simp[ByteArray.push]
   ·simp at hb
theorem qEL(off:Nat):∀(vs:List Value) (k:Nat) (arr:Array Value),off+k+vs.length<=arr.size->
 ((vs.zipIdx k).foldl (fun cs x=>cs.setIfInBounds (off+x.2) x.1) arr).size=arr.size/\
 ∀j,((vs.zipIdx k).foldl (fun cs x=>cs.setIfInBounds (off+x.2) x.1) arr)[j]?=if off+k<=j/\j<off+k+vs.length then vs[j-(off+k)]? else arr[j]?
 | [],k,arr,h=>⟨rfl,fun j=>by simp;intro h1 h2;omega⟩
 |v::vs,k,arr,h=>by
  simp only[List.zipIdx_cons,List.foldl_cons];obtain⟨h1,h2⟩:=qEL off vs (k+1) (arr.setIfInBounds (off+k) v) (by simp at h⊢;omega);refine⟨by rw[h1];simp,fun j=> ?_⟩;rw[h2];simp only[List.length_cons]at h
  by_cases hj:j=off+k
  ·subst hj
   rw[if_neg (by omega),if_pos (by simp only[List.length_cons];omega)];simp;rw[Array.getElem?_setIfInBounds_self_of_lt (by omega)]
  ·by_cases hr:off+(k+1)<=j/\j<off+(k+1)+vs.length
   ·rw[if_pos hr,if_pos (by simp;omega)]
    obtain⟨m,rfl⟩:∃m,j=off+(k+1)+m:=⟨j-(off+(k+1)),by omega⟩;have e1:off+(k+1)+m-(off+(k+1))=m:=by omega
    have e2:off+(k+1)+m-(off+k)=m+1:=by omega
    rw[e1,e2];rfl
   ·rw[if_neg hr,if_neg (by simp;omega)]
    rw[Array.getElem?_setIfInBounds_ne (by omega)]
theorem qcE{α:Type}(cs:List α)(off:Nat)(new:List α)(h:off+new.length<=cs.length)(j:Nat):
 (splice cs off new)[j]?=if off<=j/\j<off+new.length then new[j-off]? else cs[j]?:=by
 unfold splice;have hl:(cs.take off).length=off:=by simp;omega
 by_cases h1:j<off
 ·rw[if_neg (by omega),yh_,ye_ (by omega),List.getElem?_take,if_pos h1]
 ·by_cases h2:j<off+new.length
  ·rw[if_pos ⟨by omega,h2⟩,yh_,yd_ (by omega),ye_ (by omega),hl]
  ·rw[if_neg (by omega),yd_ (by simp;omega),List.getElem?_drop]
   congr 1
   simp;omega
theorem qcj{α:Type}(cs:List α)(off:Nat)(new:List α)(h:off+new.length<=cs.length):(splice cs off new).length=cs.length:=by
 simp[splice];omega
def qeb(g:Gh)(w:World)(cs:List DV)(arr:Array Value):Prop:=
 arr.size=cs.length/\(∀v,v∈cs->v.isCell=true)/\∀(j:Nat) (v:DV) (u:Value),cs[j]?=some v->arr[j]?=some u->VR g w v u
theorem qm6{us:Array Value}{vs:List DV}(h:qda us.toList vs=true):qeb g w vs us:=
 ⟨by simpa using qfo h,fun v hv=>qjl h v hv,fun j v u h1 h2=>(qhC (qgq h j v u h1 (by simpa using h2))).1⟩
theorem qeb.put{cs:List DV}{arr:Array Value}(h:qeb g w cs arr){v:DV}{u:Value}(hv:VR g w v u)(hc:v.cells.all DV.isCell=true){off:Nat}(hlen:off+v.cells.length<=cs.length):
 qeb g w (splice cs off v.cells) (u.cells.zipIdx.foldl (fun cs (c,j)=>cs.setIfInBounds (off+j) c) arr)/\u.cells.size=v.cells.length:=by
 have hcc:∀c,c∈v.cells->c.isCell=true:=fun c hm=>(List.all_eq_true.1 hc) c hm
 obtain⟨h1,h2,h3⟩:=qnP hv hcc;have hfold:(u.cells.zipIdx.foldl (fun cs (c,j)=>cs.setIfInBounds (off+j) c) arr)=(u.cells.toList.zipIdx 0).foldl (fun cs x=>cs.setIfInBounds (off+x.2) x.1) arr:=by
  rw[<-Array.foldl_toList,Array.toList_zipIdx]
 rw[hfold];obtain⟨h4,h5⟩:=qEL off u.cells.toList 0 arr (by simp;have:=h.1;omega);refine⟨⟨by rw[h4,qcj _ _ _ hlen];exact h.1,fun x hx=> ?_,fun j x y hx hy=> ?_⟩,h1⟩
 ·obtain⟨j,hj⟩:=List.mem_iff_getElem?.1 hx
  rw[qcE _ _ _ hlen]at hj;split at hj
  ·exact hcc x (List.mem_of_getElem? hj)
  ·exact h.2.1 x (List.mem_of_getElem? hj)
 ·rw[qcE _ _ _ hlen]at hx
  rw[h5]at hy;simp at hy
  by_cases hc:off<=j/\j<off+v.cells.length
  ·rw[if_pos hc]at hx
   rw[if_pos (by omega)]at hy;exact h2 _ _ _ hx hy
  ·rw[if_neg hc]at hx
   rw[if_neg (by omega)]at hy;exact h.2.2 _ _ _ hx hy
theorem qtY{a:Act}{r:List (Nat×AV)}(hr:qef fid g w r a.tmps)(place:Nat->Option (Nat×Nat)):∀(ps:List (Nat×Operand)) (ps':List (Nat×Nat×VX)) (cs cs':List DV) (arr:Array Value),
 qf5 fid place ps ps'=true->qaI (VX.get r) cs ps'=some cs'->qeb g w cs arr->
 ∃arr',Instr.fill place arr (ps.map fun q=>(q.1,a.eval q.2))=some arr'/\qeb g w cs' arr'
 | [],[],cs,cs',arr,_,h,hc=>by simp[qaI]at h;subst h;exact⟨arr,rfl,hc⟩
 |(i,o)::ps,(off,size,x)::ps',cs,cs',arr,hok,h,hc=>by
  simp only[qf5,Bool.and_eq_true,beq_iff_eq]at hok;obtain⟨⟨h1,h2⟩,h3⟩:=hok;simp only[qaI]at h;split at h
  ·rename_i v hx
   split at h
   ·rename_i hcond
    obtain⟨rfl,hlen,hall⟩:=hcond;have hv:=qee (qas (w:=w) hr h2 hx);obtain⟨hput,hsz⟩:=hc.put hv hall hlen;obtain⟨arr',h4,h5⟩:=qtY hr place ps ps' _ cs' _ h3 h hput;refine⟨arr',?_,h5⟩;simp only[List.map_cons,Instr.fill,h1];rw[if_neg (by have:=hc.1;simp;omega)];exact h4
   ·simp at h
  ·simp at h
 | [],_::_,_,_,_,h,_,_=>by simp[qf5]at h
 |_::_,[],_,_,_,h,_,_=>by simp[qf5]at h
section
variable {a:Act} {r:List (Nat×AV)} (hr:qef fid g w r a.tmps)
include hr
theorem qMp{o:Oper}{x:VX}{v:AV}(h:qa4 P fid o.op (.conv .bytes x)=true)(hv:evP r (.conv .bytes x)=some v):Yields P fid g w a o v:=by
 obtain⟨dst,op,ty,pos,after,guard⟩:=o;cases op with
 |convert src dst' y=>
  simp only[qa4,Bool.and_eq_true]at h;obtain⟨⟨h1,h2⟩,h3⟩:=h;have hd:P.underlying dst'=some .string:=by
   unfold qyW at h2;split at h2
   ·rename_i hq;exact hq
   ·simp at h2
  split at h3
  ·rename_i e he
   have hs:=qoz he;simp at h3;have hk:P.underlying e=some (.int .u8):=by
    unfold qID at h3;split at h3
    ·rename_i hq;simp at h3;subst h3;exact hq
    ·simp at h3
   simp only[evP]at hv;split at hv
   ·rename_i tg xs hx
    obtain⟨bs,hb,rfl⟩:=ya_.1 hv;have hrel:=qee (qas (w:=w) hr h1 hx);generalize hq:a.eval y=q at hrel;cases hrel with
    |nil=>
     simp[bytesOf]at hb;subst hb
     refine⟨.string .empty,?_,.d _ _ ?_⟩
     ·simp[execOp,convert,hq,underlying,hs,hd,hk,Conv.bytesToString]
     ·exact .str _
    |row _ _ ad c s U ht hlen hm hcell hK hcs hvs hown=>
     refine⟨.string ⟨bs.toArray⟩,?_,.d _ _ (.str _)⟩;have hone:xs≠[]->s=1:=by
      intro hne;cases xs with
      |nil=>exact absurd rfl hne
      |cons x xs=>
       have h9:=(hcs 0 x rfl).1;unfold bytesOf at hb;split at hb
       ·simp_all
       ·rename_i n r heq
        simp at heq;obtain⟨rfl,rfl⟩:=heq;simpa[DV.cells]using h9.symm
       ·simp at hb
     have hload:(loadCells ad xs.length).run P w= .ok ((List.range xs.length).map U).toArray w:=run_loadCells w ad _ U (fun j hj=>by
      have:xs≠[]:=fun he=>by simp[he]at hj
      have:=hone this;subst this;exact hcell j (by omega))
     have hl:=fun f hf=>qnt (P:=P) (g:=g) (w:=w) f hf xs ((List.range xs.length).map U) bs .empty hb (by simp) (fun j v u h4 h5=>by
      have hlt:j<xs.length:=(List.getElem?_eq_some_iff.1 h4).1;have:xs≠[]:=fun he=>by simp[he]at hlt
      have:=hone this;subst this;simp[hlt]at h5;subst h5;have hc:v.cells=[v]:=by
       cases v with
       |agg cs=>
        have:=hcs _ _ h4;exfalso;clear hvs hown hload;have hmem:DV.agg cs∈xs:=List.mem_of_getElem? h4;have:∀(ys:List DV) (bs:List UInt8),bytesOf ys=some bs->DV.agg cs∉ys:=by
         intro ys
         induction ys with
         |nil=>intro _ _ hm;simp at hm
         |cons z zs ih=>
          intro bs hb hm;unfold bytesOf at hb;split at hb
          ·simp_all
          ·rename_i n r heq
           simp at heq;obtain⟨rfl,rfl⟩:=heq;obtain⟨bs',hb',rfl⟩:=ya_.1 hb;simp at hm;exact ih _ hb' hm
          ·simp at hb
        exact this xs bs hb hmem
       |_=>rfl
      have:=hvs j v 0 v h4 (by rw[hc];rfl);simpa using this)
     have hemp:(ByteArray.empty.data++bs.toArray)=bs.toArray:=by show #[]++bs.toArray=_;simp
     simp only[hemp]at hl;simp only[execOp,convert,hq,Sem.run_bind,qkf hs,qkf hd,qkf hk,Result.andThen_ok,Conv.bytesToString,hload,List.forIn_toArray];rw[hl _ (fun _ _=>rfl)];simp
   ·simp at hv
  ·simp at h3
 |_=>simp[qa4]at h
theorem qMq{o:Oper}{z:List DV}{ps':List (Nat×Nat×VX)}{v:AV}(h:qa4 P fid o.op (.build z ps')=true)(hv:evP r (.build z ps')=some v):Yields P fid g w a o v:=by
 obtain⟨dst,op,ty,pos,after,guard⟩:=o;cases op with
 |build t ps=>
  simp only[qa4,Bool.and_eq_true]at h;obtain⟨h1,h2⟩:=h;split at h2
  ·rename_i pl hpl
   unfold qz0 at h1;split at h1
   ·rename_i zv hz
    obtain⟨it,hit,hzero⟩:=yb_.1 hz;simp only[evP]at hv;obtain⟨cs,hcs,rfl⟩:=ya_.1 hv;obtain⟨arr,h3,h4⟩:=qtY hr pl ps.toList ps' z cs zv.cells h2 hcs (qm6 h1);have hb:P.built t (ps.map fun(i,x)=>(i,a.eval x)).toList=some arr:=by
     have e:(ps.map fun(i,x)=>(i,a.eval x)).toList=ps.toList.map fun q=>(q.1,a.eval q.2):=by simp
     rw[e];unfold qDP at hpl;unfold Program.built;split at hpl
     ·rename_i n e' hu
      obtain⟨ie,hie,rfl⟩:=ya_.1 hpl;simp[hit,hu,hzero,hie];exact h3
     ·rename_i fs hu
      obtain⟨places,hp,rfl⟩:=ya_.1 hpl;simp[hit,hu,hzero,hp];simpa using h3
     ·simp at hpl
    refine⟨.agg arr,?_,.d _ _ (.agg _ _ h4.1 h4.2.1 h4.2.2)⟩;simp only[execOp,Sem.run_bind];rw[run_build w t _ arr hb];simp
   ·simp at h1
  ·simp at h2
 |_=>simp[qa4]at h
end
end Go.Proofs.YtbcbkiaineacpaaGreat.VS
namespace Go.Proofs.YtbcbkiaineacpaaGreat.VS
variable {P:Program} {fid:Nat->FuncId} {g:Gh} {w:World}
theorem qjr(d:Nat){cs cs':List DV}{xs ys:Array Value}(hx:qeb g w cs xs)(hy:qeb g w cs' ys):
 ∀(fs:List Field) (ks:List Nat) (i:Nat) (b:Bool),qc8 P i fs ks=true->qbx ks (cs.drop i) (cs'.drop i)=some b->
  (Op.eqFields (d+1) xs ys fs).run P w= .ok b w
 | [],[],i,b,_,h3=>by
  unfold qbx at h3;split at h3<;>simp_all
  simp[Op.eqFields]
 |f::fs,k::ks,i,b,hp,h3=>by
  simp only[qc8,Bool.and_eq_true,decide_eq_true_eq]at hp;obtain⟨⟨⟨hoff,hname⟩,hty⟩,hrest⟩:=hp;subst hoff;have l1:f.offset<cs.length:=by
   rcases Nat.lt_or_ge f.offset cs.length with h|h
   ·exact h
   ·rw[List.drop_eq_nil_of_le h]at h3;unfold qbx at h3;split at h3<;>simp_all
  have l2:f.offset<cs'.length:=by
   rcases Nat.lt_or_ge f.offset cs'.length with h|h
   ·exact h
   ·rw[List.drop_eq_nil_of_le h]at h3;unfold qbx at h3;split at h3<;>simp_all
  have lx:f.offset<xs.size:=by have:=hx.1;omega
  have ly:f.offset<ys.size:=by have:=hy.1;omega
  have vx:=hx.2.2 f.offset cs[f.offset] xs[f.offset] (by simp) (by simp);have vy:=hy.2.2 f.offset cs'[f.offset] ys[f.offset] (by simp) (by simp);rw[List.drop_eq_getElem_cons l1,List.drop_eq_getElem_cons l2]at h3;have ih:=fun b h=>qjr d hx hy fs ks (f.offset+1) b hrest h
  have hname':f.name≠ "_":=by simpa using hname
  have hag:(isAgg f.type).run P w= .ok false w:=by
   split at hty
   ·rename_i hu;simp[isAgg,underlying,hu]
   ·rename_i hu;simp[isAgg,underlying,hu]
   ·rename_i hu;simp[isAgg,underlying,hu]
   ·simp at hty
  have hpart:∀(zs:Array Value) (hl:f.offset<zs.size),(part f.type zs f.offset).run P w= .ok zs[f.offset] w:=by
   intro zs hl;simp[part,hag,hl]
  simp only[Op.eqFields,hname',ne_eq,not_false_eq_true,if_true,Sem.run_bind,hpart xs lx,hpart ys ly,Result.andThen_ok];generalize xs[f.offset]=q at vx⊢
  generalize ys[f.offset]=q' at vy⊢
  generalize cs[f.offset]=c at vx h3;generalize cs'[f.offset]=c' at vy h3;have fin:∀(e:Bool) (o:Option Bool),(if e=true then o else o.map fun _=>false)=some b->(∀b,o=some b->(Op.eqFields (d+1) xs ys fs).run P w= .ok b w)->
   (if(!e)=true then(pure false:Sem Bool)else Op.eqFields (d+1) xs ys fs).run P w= .ok b w:=by
   intro e o h hh;cases e with
   |true=>exact hh b (by simpa using h)
   |false=>
    simp at h;simp[h.2]
  unfold qbx at h3;split at h3
  ·simp_all
  ·rename_i e1 e2 e3
   simp at e1 e2 e3;obtain⟨rfl,rfl⟩:=e1;obtain⟨rfl,rfl⟩:=e2;obtain⟨rfl,rfl⟩:=e3;split at h3
   ·rename_i hk
    subst hk;cases vx;cases vy
    split at hty
    ·simp at hty
    ·rename_i k0 hu
     rw[run_equalIn_int w d f.type _ k0 _ _ hu];exact fin _ _ h3 ih
    ·simp at hty
    ·simp at hty
   ·simp at h3
  ·rename_i e1 e2 e3
   simp at e1 e2 e3;obtain⟨rfl,rfl⟩:=e1;obtain⟨rfl,rfl⟩:=e2;obtain⟨rfl,rfl⟩:=e3;cases vx;cases vy
   split at hty
   ·rename_i hu
    rw[run_equalIn_bool' w d f.type _ _ hu];exact fin _ _ h3 ih
   ·simp at hty
   ·simp at hty
   ·simp at hty
  ·rename_i e1 e2 e3
   simp at e1 e2 e3;obtain⟨rfl,rfl⟩:=e1;obtain⟨rfl,rfl⟩:=e2;obtain⟨rfl,rfl⟩:=e3;cases vx;cases vy
   split at hty
   ·simp at hty
   ·simp at hty
   ·rename_i hu
    rw[run_equalIn_string w d f.type _ _ hu];exact fin _ _ h3 ih
   ·simp at hty
  ·simp at h3
 | [],_::_,_,_,h,_=>by simp[qc8]at h
 |_::_,[],_,_,h,_=>by simp[qc8]at h
section
variable {a:Act} {r:List (Nat×AV)} (hr:qef fid g w r a.tmps)
include hr
theorem qMo{o:Oper}{neg:Bool}{ks:List Nat}{x y:VX}{v:AV}(h:qa4 P fid o.op (.eqAgg neg ks x y)=true)(hv:evP r (.eqAgg neg ks x y)=some v):Yields P fid g w a o v:=by
 obtain⟨dst,op,ty,pos,after,guard⟩:=o;cases op with
 |binOp b' t x' y' ty'=>
  simp only[qa4,Bool.and_eq_true,decide_eq_true_eq]at h;obtain⟨⟨⟨hb,h1⟩,h2⟩,h3⟩:=h;split at h3
  ·rename_i fs hu
   simp at h3;obtain⟨⟨h4,h5⟩,h6⟩:=h3;simp only[evP]at hv;split at hv
   ·rename_i ca cb hx hy
    obtain⟨b,hcells,rfl⟩:=ya_.1 hv;have rx:=qee (qas (w:=w) hr h1 hx);have ry:=qee (qas (w:=w) hr h2 hy);generalize hq:a.eval x'=q at rx;generalize hq':a.eval y'=q' at ry;cases rx with
    |agg _ us hs1 hc1 hv1=>
     cases ry with
     |agg _ us' hs2 hc2 hv2=>
      have hfo:P.fieldsOf t=fs:=by simp[Program.fieldsOf,hu]
      have hrun:=qjr (P:=P) (w:=w) 9998 ⟨hs1,hc1,hv1⟩ ⟨hs2,hc2,hv2⟩ fs.toList ks 0 b h4 (by simpa using hcells);have heq:(Op.equalIn 10000 t (.agg us) (.agg us')).run P w= .ok b w:=by
       rw[show(10000:Nat)=9999+1 from rfl,run_equalIn_struct w 9999 t us us' (by rw[hfo];exact hu) h5,hfo];exact hrun
      have hg:=run_eqGuard_agg (P:=P) w b' t x' y' us us' h6;refine⟨.bool (if neg then !b else b),?_,.d _ _ (.bool _)⟩;cases neg<;>simp at hb<;>subst hb
      ·simp[execOp,hq,hq',hg,run_eql_struct,heq]
      ·simp[execOp,hq,hq',hg,run_neq_struct,heq]
   ·simp at hv
  ·simp at h3
 |_=>simp[qa4]at h
theorem qLV{o:Oper}{vo:VOp}{v:AV}(h:qa4 P fid o.op vo=true)(hv:evP r vo=some v):Yields P fid g w a o v:=by
 cases vo with
 |move x=>exact qQi hr h hv
 |pick c x y=>exact qQh hr h hv
 |build z ps=>exact qMq hr h hv
 |nilCheck x=>exact qxU hr h hv
 |bin b x y=>exact qVW hr h hv
 |eqAgg n k x y=>exact qMo hr h hv
 |eqB n x y=>exact qVV hr h hv
 |not x=>exact qVT hr h hv
 |conv c x=>
  cases c with
  |kind k=>exact qQj hr h hv
  |bytes=>exact qMp hr h hv
  |rune=>exact qQg hr h hv
 |index x i=>exact qMn hr h hv
 |indexAddr sz arr x i=>
  cases arr with
  |none=>exact qsb hr h hv
  |some n=>exact qxW hr h hv
 |fieldAddr off x=>exact qsc hr h hv
 |slice s sz x lo hi=>
  cases s with
  |true=>exact qGr hr h hv
  |false=>exact qGs hr h hv
 |makeFunc f cs=>exact qxV hr h hv
 |extract x i=>exact qz4 hr h hv
 |len s x=>exact qVU hr h hv
 |_=>simp[evP]at hv
end
end Go.Proofs.YtbcbkiaineacpaaGreat.VS
