/- The engine, part 1: a call of the program answers what an evaluator of values without memory answers, for the functions whose code is the one that the evaluator is given. -/
import GoSem.Core.View
import GoSem.Op.String
import GoSem.Core.Utf8
import GoSem.Core.Code
import Derived.Calls
import Derived.Control
import GoSem.ClaimData
import Derived.Orders
import Derived.Laws.Sem
import Derived.Laws.Cells
import Derived.Laws.World
import Derived.Laws.Entries
import Derived.Laws.CopyRow
import Derived.Laws.Rows
import Derived.Laws.Tables
import Derived.Laws.StructEq
set_option linter.unusedSimpArgs false
set_option linter.unusedVariables false
namespace Go.Proofs.YtpcoohnjllclnaaGreat.VS
abbrev ydH:=List (Nat×List Value)
abbrev ydE:=List (List Nat)
abbrev qs:=Option (Nat×Bool)
abbrev ydu:=List (List Int)
abbrev uL:=Option Bool
abbrev kV:=Option Addr
abbrev ee:=Array Value
abbrev cX:=List Value
abbrev bi:=Option Nat
abbrev ax:=List Int
abbrev ae:=List Nat
theorem aJ{p:Prop}(h:p):p:=h
theorem aM{α:Type _}{p:α->Prop}{a:α}{l:List α}(h:p a)(t:∀x,x∈l->p x):∀x,x∈a::l->p x:=List.forall_mem_cons.2 ⟨h,t⟩
abbrev IF:=@List.set_eq_take_append_cons_drop
abbrev yab:=@Array.getElem?_setIfInBounds_ne
abbrev XU:=@List.replicate_append_replicate
abbrev kp:=@List.eq_nil_of_length_eq_zero
abbrev Np:=@List.getLast?_eq_some_getLast
abbrev vL:=@List.dropLast_concat_getLast
abbrev AA:=@Array.getD_eq_getD_getElem?
abbrev G6:=@Array.getElem?_append_left
abbrev oV:=@Array.getElem?_eq_some_iff
abbrev ND:=@Int.fdiv_eq_ediv_of_nonneg
abbrev dS:=@List.drop_eq_getElem_cons
abbrev AR:=@List.getElem?_eq_none_iff
abbrev cw:=@List.getElem?_eq_some_iff
abbrev I0:=@List.mem_or_eq_of_mem_set
abbrev j6:=@List.sublist_append_right
abbrev OF:=@Option.isNone_iff_eq_none
abbrev Og:=@List.eq_of_mem_replicate
abbrev fp:=@List.getElem?_eq_getElem
abbrev GJ:=@List.sublist_append_left
abbrev Na:=@Option.isSome_iff_exists
abbrev Cj:=@List.getElem?_cons_succ
abbrev pz:=@List.getElem?_cons_zero
abbrev Hy:=@List.getElem?_replicate
abbrev j7:=@List.getElem?_set_self'
abbrev gS:=@List.length_eq_zero_iff
abbrev ru:=@List.pairwise_singleton
abbrev GK:=@decide_eq_false_iff_not
abbrev oS:=@List.drop_eq_nil_of_le
abbrev yp:=@List.drop_of_length_le
abbrev Ja:=@List.findIdx_le_length
abbrev pa:=@List.getElem?_set_self
abbrev LC:=@List.length_eq_one_iff
abbrev dD:=@List.take_of_length_le
abbrev NS:=@Bool.and_eq_false_iff
abbrev Ey:=@List.contains_iff_mem
abbrev jm:=@List.getElem?_eq_none
abbrev NE:=@List.length_replicate
abbrev qn:=@List.mem_append_right
abbrev jC:=@List.mem_iff_getElem?
abbrev yt:=@List.perm_append_comm
abbrev ye:=@List.set_append_right
abbrev ed:=@List.sizeOf_lt_of_mem
abbrev dJ:=@List.take_append_drop
abbrev jq:=@List.getElem?_set_ne
abbrev ov:=@List.mem_append_left
abbrev jn:=@List.mem_cons_of_mem
abbrev pm:=@List.mem_of_getElem?
abbrev O4:=@List.mem_of_mem_drop
abbrev pT:=@List.mem_of_mem_take
abbrev ob:=@List.pairwise_append
abbrev GG:=@Nat.pow_le_pow_right
abbrev jg:=@List.Sublist.append
abbrev FU:=@List.flatMap_append
abbrev Bo:=@List.forall_mem_nil
abbrev mT:=@List.getElem_of_mem
abbrev yl:=@List.length_pos_iff
abbrev yY:=@List.map_congr_left
abbrev mo:=@List.replicate_succ
abbrev Bz:=@List.take_succ_cons
abbrev bg:=@Bool.false_eq_true
abbrev dC:=@Int.cast_ofNat_Int
abbrev DD:=@List.getElem?_drop
abbrev pX:=@List.getElem?_take
abbrev jH:=@List.mem_cons_self
abbrev fS:=@List.mem_singleton
abbrev nX:=@List.pairwise_cons
abbrev wI:=@List.set_cons_zero
abbrev G9:=@Nat.eq_or_lt_of_le
abbrev B4:=@Nat.lt_of_lt_of_le
abbrev Ce:=@Array.size_append
abbrev mf:=@Function.comp_def
abbrev tI:=@Int.toNat_natCast
abbrev AO:=@List.Pairwise.nil
abbrev ct:=@List.Sublist.refl
abbrev oW:=@List.ext_getElem?
abbrev mC:=@List.flatMap_cons
abbrev lC:=@List.flatten_cons
abbrev xO:=@List.foldl_append
abbrev dP:=@List.getElem?_map
abbrev ge:=@List.isEmpty_cons
abbrev cJ:=@List.nodup_append
abbrev pW:=@List.take_add_one
abbrev ca:=@Option.some.injEq
abbrev cB:=@decide_eq_true_eq
abbrev mq:=@not_false_eq_true
abbrev sR:=@not_true_eq_false
abbrev cd:=@Bool.and_eq_true
abbrev nv:=@Int.natCast_zero
abbrev cm:=@List.all_eq_true
abbrev c9:=@List.cons_append
abbrev D4:=@List.drop_append
abbrev Gu:=@List.drop_length
abbrev K9:=@List.ext_getElem
abbrev Cu:=@List.getElem_map
abbrev gB:=@List.getElem_mem
abbrev c7:=@List.length_cons
abbrev UO:=@List.length_drop
abbrev xd:=@List.length_take
abbrev tX:=@List.mem_flatMap
abbrev Dd:=@List.perm_middle
abbrev tw:=@List.sublist_nil
abbrev jY:=@List.take_length
abbrev pw:=@Nat.le_max_right
abbrev nL:=@Nat.lt_succ_self
abbrev K_:=@Nat.mod_eq_of_lt
abbrev bO:=@Option.bind_some
abbrev qB:=@Option.getD_some
abbrev pY:=@Bool.eq_iff_iff
abbrev jr:=@Bool.or_eq_true
abbrev qt:=@Int.natCast_add
abbrev HE:=@List.all_append
abbrev cS:=@List.append_nil
abbrev jv:=@List.foldl_cons
abbrev cT:=@List.length_map
abbrev lE:=@List.length_nil
abbrev rB:=@List.length_set
abbrev cL:=@List.map_append
abbrev bw:=@List.mem_append
abbrev GL:=@List.mem_filter
abbrev co:=@List.nil_append
abbrev B8:=@List.nodup_cons
abbrev rk:=@Nat.le_max_left
abbrev HJ:=@Nat.min_eq_left
abbrev b9:=@Option.map_some
abbrev dV:=@beq_false_of_ne
abbrev wL:=@Bool.and_false
abbrev re:=@Bool.false_and
abbrev kX:=@Bool.not_false
abbrev kt:=@List.Perm.refl
abbrev sj:=@List.drop_drop
abbrev eQ:=@List.drop_zero
abbrev Br:=@List.take_zero
abbrev Hq:=@Option.map_map
abbrev uk:=@Bool.and_true
abbrev lR:=@Bool.not_true
abbrev l6:=@Bool.or_false
abbrev eE:=@Bool.true_and
abbrev vU:=@Int.add_assoc
abbrev fX:=@List.all_cons
abbrev bF:=@List.map_cons
abbrev E5:=@List.map_drop
abbrev yJ:=@List.map_take
abbrev cE:=@List.mem_cons
abbrev nP:=@List.sum_cons
abbrev qd:=@Prod.mk.injEq
abbrev j5:=@Sum.inl.injEq
abbrev DG:=@Bool.or_true
abbrev E1:=@Bool.true_or
abbrev Cs:=@Int.zero_add
abbrev eX:=@List.map_map
abbrev bT:=@List.map_nil
abbrev cC:=@List.mem_map
abbrev wB:=@List.set_set
abbrev HV:=@Nat.add_comm
abbrev Cx:=@Nat.add_zero
abbrev eG:=@Nat.le_trans
abbrev lP:=@Nat.lt_or_ge
abbrev mO:=@Nat.sub_self
abbrev qa:=@Nat.sub_zero
abbrev dE:=@Nat.zero_add
abbrev xR:=@Nat.zero_mul
abbrev kP:=@Nat.add_mul
abbrev bI:=@Nat.le_refl
abbrev b7:=@Nat.le_succ
abbrev c8:=@Nat.zero_le
abbrev vG:=@beq_iff_eq
abbrev Ao:=@and_assoc
abbrev Dv:=@false_and
abbrev xY:=@and_self
abbrev Eg:=@congrArg
abbrev qx:=@true_and
abbrev aC:=@if_neg
abbrev ay:=@if_pos
abbrev eg:=@ne_eq
theorem aN{α β:Type _}{b:β}{x:Option α}{f:α->β}:Option.map f x=some b↔∃a,x=some a/\f a=b:=Option.map_eq_some_iff
theorem aL{α β:Type _}{b:β}{x:Option α}{f:α->Option β}:x.bind f=some b↔∃a,x=some a/\f a=some b:=Option.bind_eq_some_iff
theorem yc_{α:Type _}{p:α->Prop}{a:α}{l:List α}:(∀x,x∈a::l->p x)↔p a/\∀x,x∈l->p x:=List.forall_mem_cons
variable{i:Nat}
theorem dx{α:Type _}{l₁ l₂:List α}(h:l₁.length<=i):(l₁++l₂)[i]?=l₂[i-l₁.length]?:=List.getElem?_append_right h
theorem d8{α:Type _}{l₁ l₂:List α}(h:i<l₁.length):(l₁++l₂)[i]?=l₁[i]?:=List.getElem?_append_left h
theorem cG{α:Type _}{as bs:List α}:(as++bs).length=as.length+bs.length:=List.length_append
theorem bX{α:Type _}(as bs cs:List α):as++bs++cs=as++(bs++cs):=List.append_assoc as bs cs
abbrev Id:=ae
abbrev eU:=List Id
abbrev Ids:=Id->Bool
def Ids.none:Ids:=fun _=>false
def Ids.add(a:Id)(A:Ids):Ids:=fun x=>decide (x=a)||A x
def Ids.del(a:Id)(A:Ids):Ids:=fun x=> !decide (x=a)&&A x
def Ids.or(A A':Ids):Ids:=fun x=>A x||A' x
inductive Tag where
 |nil
 |sub
 |own (a:Id) (sz:Nat)
 deriving Inhabited,DecidableEq
inductive DV where
 |int (k:IntKind) (n:Int)
 |bool (b:Bool)
 |str (s:ByteArray)
 |agg (cs:List DV)
 |sl (g:Tag) (xs:List DV)
 |tup (vs:List DV)
 deriving Inhabited
abbrev ydM:=List (Nat×(List DV->Option DV))
abbrev r9:=Option (DV×Ids)
abbrev ydA:=List (List DV)
abbrev ydy:=Option (List DV)
abbrev cP:=Option DV
abbrev aw:=List DV
inductive AV where
 |d (v:DV)
 |ptr (i off:Nat)
 |ep (cs:aw)
 |nilp
 |fn (f:Nat) (cap:List AV)
 |bsl (id:Id) (agg:Bool) (i sz n:Nat)
 |tsl (agg:Bool) (i sz n:Nat)
 |ag (tup:Bool) (cs:List AV)
 |und
 deriving Inhabited
abbrev ydI:=List (List AV)
abbrev ydw:=Option (List AV)
abbrev aI:=List (Nat×AV)
abbrev a8:=Option AV
abbrev aG:=List AV
@[simp] abbrev aa(i:Int):AV:=.d (.int .i64 i)
@[simp] abbrev au(b:Bool):AV:=.d (.bool b)
def DV.cells:DV->aw
 | .agg cs=>cs
 |v=>[v]
def DV.isCell:DV->Bool
 | .agg _=>false
 | .tup _=>false
 |_=>true
def AV.cells:AV->aG
 | .d (.agg cs)=>cs.map .d
 | .ag false cs=>cs
 |v=>[v]
def AV.isCell:AV->Bool
 | .d v=>v.isCell
 | .und=>false
 | .ag _ _=>false
 |_=>true
def bd:aG->Option aw
 | []=>some []
 | .d v::r=>(bd r).map (v::·)
 |_=>none
abbrev az:=List (Option aG)
abbrev nJ:=Option (AV×az)
def b5(B:az)(i:Nat):Option aG:=
 match B[i]? with
 |some (some cs)=>some cs
 |_=>none
def eK(B:az)(i:Nat):Bool:=
 match B[i]? with
 |some none=>true
 |_=>false
def AV.safe(m:Nat):AV->Bool
 | .d _| .ep _| .nilp| .und=>true
 | .ptr i _=>i<m
 | .fn _ cap=>safes cap
 | .bsl _ _ i _ _=>i<m
 | .tsl _ i _ _=>i<m
 | .ag _ cs=>safes cs
where safes:aG->Bool
 | []=>true
 |a::r=>a.safe m&&safes r
inductive VX where
 |t (n:Nat)
 |c (v:AV)
abbrev mM:=List (Nat×VX)
abbrev nq:=List (Nat×Nat×VX)
abbrev nW:=Option VX
abbrev cg:=List VX
inductive Conv where
 |kind (k:IntKind)
 |bytes
 |rune
inductive VOp where
 |move (x:VX)
 |pick (c a b:VX)
 |alloc (slot:Nat) (zero:aw)
 |box (slot:Nat) (x:VX)
 |build (zero:aw) (parts:nq)
 |buildSlice (sz:Nat) (zero:DV) (len:Nat) (parts:mM)
 |load (agg:Bool) (sz:Nat) (a:VX)
 |store (init:Bool) (sz:Nat) (a x:VX)
 |storeN (sz:Nat) (a x:VX) (av:ae)
 |nilCheck (x:VX)
 |bin (op:BinOp) (x y:VX)
 |eqAgg (neg:Bool) (ks:ae) (x y:VX)
 |eqB (neg:Bool) (x y:VX)
 |eqNil (neg:Bool) (x:VX)
 |not (x:VX)
 |conv (c:Conv) (x:VX)
 |index (x i:VX)
 |indexAddr (sz:Nat) (arr:bi) (x i:VX)
 |fieldAddr (off:Nat) (x:VX)
 |slice (str:Bool) (sz:Nat) (x:VX) (lo hi:nW)
 |makeFunc (f:Nat) (caps:cg)
 |makeSlice (slot:Nat) (sz bytes:Nat) (zero:DV) (x:VX)
 |extract (x:VX) (i:Nat)
 |call (iso:Bool) (f:VX) (args:cg)
 |append (sz bytes:Nat) (x y:VX)
 |len (str:Bool) (x:VX)
 |max (x y:VX)
 |fail
structure VOper where
 dst:bi
 op:VOp
 guard:qs:=none
 after:ae:=[]
abbrev ak:=List VOper
inductive FOper where
 |one (o:VOper)
 |sl (d1 a d2:Nat) (b:VX) (d3 sz:Nat) (lo hi:nW) (f1 f2 f3:ae)
 |el (d1 q d2:Nat) (b:VX) (d3 sz d4:Nat) (f1 f2 f3 f4:ae)
abbrev dZ:=List FOper
def FOper.pre:FOper->ak
 | .one o=>[o]
 | .sl d1 a d2 b _ _ _ _ f1 f2 _=>[⟨some d1,.move (.t a),none,f1⟩,⟨some d2,.move b,none,f2⟩]
 | .el d1 q d2 b d3 sz _ f1 f2 f3 _=>[⟨some d1,.load false 1 (.t q),none,f1⟩,⟨some d2,.move b,none,f2⟩,⟨some d3,.indexAddr sz none (.t d1) (.t d2),none,f3⟩]
def FOper.post:FOper->ak
 | .one _=>[]
 | .sl d1 _ _ _ d3 sz lo hi _ _ f3=>[⟨some d3,.slice false sz (.t d1) lo hi,none,f3⟩]
 | .el _ _ _ _ d3 sz d4 _ _ _ f4=>[⟨some d4,.load true sz (.t d3),none,f4⟩]
def iw:dZ->ak
 | []=>[]
 |f::fs=>f.pre++(f.post++iw fs)
inductive VCode where
 |skip
 |ret
 |exit (id:Nat)
 |seq (a b:VCode)
 |region (draw:Bool) (na:Nat) (live:ae) (ops:ak)
 |cond (x:VX) (a b:VCode)
 |block (id:Nat) (c:VCode)
 |loop (live:ae) (c:VCode)
 |regionF (draw:Bool) (na:Nat) (live:ae) (fs:dZ)
 |regionS (na:Nat) (live:ae) (pre:ak) (t t1:Nat) (i x:VX) (d:Nat) (f1 f2:ae)
inductive VRes where
 |tmp (t:Nat)
 |cell (t:Nat) (agg:Bool) (sz:Nat)
abbrev jt:=List VRes
structure VFn where
 np:Nat
 results:jt
 code:VCode
abbrev Bi:=List (Nat×VFn)
structure St where
 r:aI
 B:az
 A:Ids
 c:Nat
abbrev pq:=Option St
inductive Ex where
 |normal
 |exit (id:Nat)
 |ret
 deriving DecidableEq
abbrev wG:=Option (Ex×St)
structure Res where
 v:AV
 A:Ids
 B:az
abbrev cj:=Id->Nat->aG->az->Ids->Option Res
def lk:aI->Nat->a8
 | [],_=>none
 |(t,v)::r,n=>if n=t then some v else lk r n
def VX.get(r:aI):VX->a8
 | .t n=>lk r n
 | .c v=>some v
def cmp(op:BinOp)(x y:Int):uL:=
 match op with
 | .eql=>some (x==y)
 | .neq=>some (x !=y)
 | .lss=>some (decide (x<y))
 | .leq=>some (decide (x<=y))
 | .gtr=>some (decide (x>y))
 | .geq=>some (decide (x>=y))
 |_=>none
def bits(op:BinOp)(k:IntKind)(x y:Int):Option Int:=
 let a:=BitVec.ofInt k.bits x
 let b:=BitVec.ofInt k.bits y
 match op with
 | .and=>some (k.wrap (a&&&b).toNat)
 | .or=>some (k.wrap (a|||b).toNat)
 | .xor=>some (k.wrap (a^^^b).toNat)
 | .andNot=>some (k.wrap (a&&& ~~~b).toNat)
 |_=>none
def d7(op:BinOp)(k:IntKind)(x y:Int):cP:=
 match op with
 | .add=>some (.int k (k.wrap (x+y)))
 | .sub=>some (.int k (k.wrap (x-y)))
 | .mul=>some (.int k (k.wrap (x*y)))
 | .quo=>if y=0 then none else some (.int k (k.wrap (x.tdiv y)))
 | .rem=>if y=0 then none else some (.int k (x.tmod y))
 | .shl=>if y<0 then none else some (.int k (k.wrap (x*2^(min y.toNat k.bits))))
 | .shr=>if y<0 then none else some (.int k (x.fdiv (2^(min y.toNat k.bits))))
 | .and| .or| .xor| .andNot=>(bits op k x y).map (.int k)
 |_=>(cmp op x y).map .bool
def eL(a b:ByteArray):Bool:=a.toList==b.toList
def mV(op:BinOp)(a b:DV):cP:=
 match a,b with
 | .int k x,.int k' y=>
  match op with
  | .shl=>d7 .shl k x y
  | .shr=>d7 .shr k x y
  |_=>if k=k' then d7 op k x y else none
 | .str a,.str b=>
  match op with
  | .add=>if a.size+b.size<=4611686018427387904 then some (.str (a++b))else none
  | .eql=>some (.bool (eL a b))
  | .neq=>some (.bool !(eL a b))
  |_=>none
 |_,_=>none
def eM:ae->aw->aw->uL
 | [],[],[]=>some true
 |0::ks,.int k x::r,.int k' y::b=>if k=k' then(if x==y then eM ks r b else(eM ks r b).map fun _=>false)else none
 |1::ks,.bool x::r,.bool y::b=>if x==y then eM ks r b else(eM ks r b).map fun _=>false
 |2::ks,.str x::r,.str y::b=>if eL x y then eM ks r b else(eM ks r b).map fun _=>false
 |_,_,_=>none
variable{α:Type}
def splice(cs:List α)(off:Nat)(new:List α):List α:=cs.take off++new++cs.drop (off+new.length)
def iR(g:VX->a8)(cs:aw):nq->Option aw
 | []=>some cs
 |(off,size,x)::r=>
  match g x with
  |some (.d v)=>if v.cells.length=size/\off+size<=cs.length/\v.cells.all DV.isCell then iR g (splice cs off v.cells) r else none
  |_=>none
def f6(g:VX->a8)(sz:Nat)(xs:aw):mM->Option aw
 | []=>some xs
 |(i,x)::r=>
  match g x with
  |some (.d v)=>if v.cells.length=sz/\i<xs.length/\v.cells.all DV.isCell then f6 g sz (xs.set i v) r else none
  |_=>none
def rW(s:ByteArray)(i:Nat):Option Int:=(s[i]?).map fun b=>(b.toNat:Int)
def bytesOf:aw->Option (List UInt8)
 | []=>some []
 | .int .u8 n::r=>(bytesOf r).map (UInt8.ofNat n.toNat::·)
 |_=>none
def f0(r:aI):cg->Option aG
 | []=>some []
 |x::xs=>(x.get r).bind fun v=>(f0 r xs).map (v::·)
def cut(agg:Bool)(sz:Nat)(cs:aw):cP:=if agg then(if sz<=cs.length then some (.agg (cs.take sz))else none)else cs[0]?
def oQ(v:AV):Option Int:=
 match v with
 | .d (.int _ n)=>some n
 |_=>none
def hZ(len:Nat)(hi:a8):bi:=
 match hi with
 |none=>some len
 |some v=>(oQ v).bind fun h=>if 0<=h/\h.toNat<=len then some h.toNat else none
def gL(h:Nat)(lo:a8):bi:=
 match lo with
 |none=>some 0
 |some v=>(oQ v).bind fun l=>if 0<=l/\l.toNat<=h then some l.toNat else none
def eJ(r:aI):nW->Option a8
 |none=>some none
 |some x=>(x.get r).map some
def bo(r:aI):VOp->a8
 | .move x=>x.get r
 | .pick c a b=>
  match c.get r with
  |some (.d (.bool true))=>a.get r
  |some (.d (.bool false))=>b.get r
  |_=>none
 | .build zero parts=>(iR (VX.get r) zero parts).map fun cs=> .d (.agg cs)
 | .nilCheck x=>
  match x.get r with
  |some (.ptr i o)=>some (.ptr i o)
  |some (.ep cs)=>some (.ep cs)
  |some (.fn f c)=>some (.fn f c)
  |_=>none
 | .bin op x y=>
  match x.get r,y.get r with
  |some (.d a),some (.d b)=>(mV op a b).map .d
  |_,_=>none
 | .eqAgg neg ks x y=>
  match x.get r,y.get r with
  |some (.d (.agg a)),some (.d (.agg b))=>(eM ks a b).map fun e=> au (if neg then !e else e)
  |_,_=>none
 | .eqB neg x y=>
  match x.get r,y.get r with
  |some (.d (.bool a)),some (.d (.bool b))=>some (au (if neg then !(a==b)else(a==b)))
  |_,_=>none
 | .eqNil neg x=>
  match x.get r with
  |some (.d (.sl g _))=>some (au (if neg then !(g== .nil)else(g== .nil)))
  |_=>none
 | .not x=>
  match x.get r with
  |some (.d (.bool b))=>some (.d (.bool !b))
  |_=>none
 | .conv (.kind k) x=>
  match x.get r with
  |some (.d (.int _ n))=>some (.d (.int k (k.wrap n)))
  |_=>none
 | .conv .rune x=>
  match x.get r with
  |some (.d (.int _ n))=>some (.d (.str (Utf8.encode n)))
  |_=>none
 | .conv .bytes x=>
  match x.get r with
  |some (.d (.sl _ xs))=>(bytesOf xs).map fun bs=> .d (.str ⟨bs.toArray⟩)
  |_=>none
 | .index x i=>
  match x.get r,i.get r with
  |some (.d (.str s)),some (.d (.int _ n))=>if 0<=n then(rW s n.toNat).map fun b=> .d (.int .u8 b)else none
  |_,_=>none
 | .indexAddr sz none x i=>
  match x.get r,i.get r with
  |some (.d (.sl _ xs)),some (.d (.int _ n))=>if 0<=n then(xs[n.toNat]?).bind fun e=>if e.cells.length=sz/\sz≠0 then some (.ep e.cells)else none else none
  |some (.bsl _ _ b j m),some (.d (.int _ n))=>if j=sz/\0<=n/\n<m then some (.ptr b (n.toNat*sz))else none
  |some (.tsl _ b j m),some (.d (.int _ n))=>if j=sz/\0<=n/\n<m then some (.ptr b (n.toNat*sz))else none
  |_,_=>none
 | .indexAddr sz (some m) x i=>
  match x.get r,i.get r with
  |some (.ptr b o),some (.d (.int _ n))=>if 0<=n/\n<m then some (.ptr b (o+n.toNat*sz))else none
  |some (.ep cs),some (.d (.int _ n))=>if 0<=n/\n<m/\n.toNat*sz<=cs.length then some (.ep (cs.drop (n.toNat*sz)))else none
  |_,_=>none
 | .fieldAddr off x=>
  match x.get r with
  |some (.ptr b o)=>some (.ptr b (o+off))
  |some (.ep cs)=>if off<=cs.length then some (.ep (cs.drop off))else none
  |_=>none
 | .slice true _ x lo hi=>
  match x.get r,eJ r lo,eJ r hi with
  |some (.d (.str s)),some lo,some hi=>(hZ s.size hi).bind fun h=>(gL h lo).map fun l=> .d (.str (s.extract l h))
  |_,_,_=>none
 | .slice false sz x lo hi=>
  match x.get r,eJ r lo,eJ r hi with
  |some (.d (.sl g xs)),some lo,some hi=>if xs.all (fun e=>e.cells.length=sz)then(hZ xs.length hi).bind fun h=>(gL h lo).map fun l=> .d (.sl (if g= .nil then .nil else .sub) ((xs.take h).drop l))else none
  |_,_,_=>none
 | .makeFunc f caps=>(f0 r caps).map fun vs=> .fn f vs
 | .extract x i=>
  match x.get r with
  |some (.d (.tup vs))=>(vs[i]?).map .d
  |some (.ag true vs)=>vs[i]?
  |_=>none
 | .len true x=>
  match x.get r with
  |some (.d (.str s))=>some (aa s.size)
  |_=>none
 | .len false x=>
  match x.get r with
  |some (.d (.sl _ xs))=>some (aa xs.length)
  |some (.bsl _ _ _ _ n)=>some (aa n)
  |some (.tsl _ _ _ n)=>some (aa n)
  |_=>none
 | .max x y=>
  match x.get r,y.get r with
  |some (.d (.int k a)),some (.d (.int k' b))=>if k=k' then some (.d (.int k (if b>a then b else a)))else none
  |_,_=>none
 |_=>none
def AV.plainT:AV->Bool
 | .d (.int _ _)=>true
 | .d (.bool _)=>true
 | .d (.str _)=>true
 | .d (.sl _ [])=>true
 | .tsl _ _ _ _=>true
 |_=>false
def p_(cs:aG)(ds:Option aw):a8:=
 match ds with
 |some ds=>some (.d (.agg ds))
 |none=>if cs.all AV.plainT then some (.ag false cs)else none
def aW(B:az)(agg:Bool)(sz i off:Nat):a8:=
 (b5 B i).bind fun cs=>if agg then(if off+sz<=cs.length then p_ ((cs.drop off).take sz) (bd ((cs.drop off).take sz))else none)else cs[off]?
def St.put(s:St)(dst:bi)(v:AV):St:=
 match dst with
 |some d=>{s with r:=(d,v)::s.r}
 |none=>s
def vT(s:St)(sz i off:Nat)(v:AV):pq:=
 (b5 s.B i).bind fun cs=>
  if v.cells.length=sz/\off+sz<=cs.length/\v.cells.all AV.isCell/\v.safe i then
   some {s with B:=s.B.set i (some (splice cs off v.cells))}
  else none
def qU(s:St)(new:Id)(sz bytes:Nat)(x y:DV):Option (AV×St):=
 match x,y with
 | .sl g xs,.sl _ b=>
  if b.all (fun e=>e.cells.length=sz/\e.cells.all DV.isCell)then
   if b.isEmpty then some (.d (.sl g xs),s)
   else if(xs.length+b.length)*bytes<=140737488355328 then
    match g with
    | .nil=>some (.d (.sl (.own new sz) b),{s with A:=Ids.add new s.A})
    | .own a c=>
     if xs.isEmpty then some (.d (.sl (.own new sz) b),{s with A:=Ids.add new s.A})
     else if c=sz/\s.A a=true then some (.d (.sl (.own new sz) (xs++b)),{s with A:=Ids.add new (Ids.del a s.A)})else none
    | .sub=>none
   else none
  else none
 |_,_=>none
def chunks(agg:Bool)(sz:Nat):Nat->aw->Option aw
 |0,_=>some []
 |n+1,cs=>(cut agg sz cs).bind fun v=>if v.cells.length=sz/\v.cells.all DV.isCell then(chunks agg sz n (cs.drop sz)).map (v::·)else none
def mE(f:AV->cP):aG->Option aw
 | []=>some []
 |v::r=>(f v).bind fun d=>(mE f r).map (d::·)
def AV.frzC(B:az):Nat->AV->cP
 |_,.d v=>some v
 |n+1,.tsl agg i sz m=>(b5 B i).bind fun cs=>(mE (AV.frzC B n) cs).bind fun ds=>if ds.length=m*sz then(chunks agg sz m ds).map fun xs=> .sl .sub xs else none
 |_,_=>none
def AV.frz(B:az):AV->cP
 | .ag false cs=>(mE (AV.frzC B B.length) cs).bind fun ds=>if ds.all DV.isCell then some (.agg ds)else none
 |v=>v.frzC B B.length
def xt:DV->Bool
 | .agg _=>true
 |_=>false
mutual
def EJ(b:Nat):DV->aG×az
 | .agg cs=>we b cs
 | .sl g []=>([.d (.sl g [])],[])
 | .sl _ (x::xs)=>
  let r:=we b (x::xs)
  ([.tsl (xt x) (b+r.2.length) x.cells.length (xs.length+1)],r.2++[some r.1])
 | .tup vs=>([.d (.tup vs)],[])
 | .int k n=>([.d (.int k n)],[])
 | .bool v=>([au v],[])
 | .str v=>([.d (.str v)],[])
def we(b:Nat):aw->aG×az
 | []=>([],[])
 |v::r=>
  let p:=EJ b v
  let q:=we (b+p.2.length) r
  (p.1++q.1,p.2++q.2)
end
def KG(b:Nat)(v:DV):AV×az:=
 match v with
 | .agg cs=>(.ag false (we b cs).1,(we b cs).2)
 |v=>((EJ b v).1.headD .und,(EJ b v).2)
def FC(b:Nat):aw->aG×az
 | []=>([],[])
 |v::r=>
  let p:=KG b v
  let q:=FC (b+p.2.length) r
  (p.1::q.1,p.2++q.2)
def DV.thaw(b:Nat)(v:DV):AV×az:=
 match v with
 | .tup vs=>(.ag true (FC b vs).1,(FC b vs).2)
 |v=>KG b v
mutual
def DV.names:DV->Option eU
 | .sl _ []=>some []
 | .sl (.own a _) (x::xs)=>(DV.namess (x::xs)).map (·++[a])
 | .sl _ (_::_)=>none
 | .agg cs=>DV.namess cs
 | .tup _=>none
 | .int _ _=>some []
 | .bool _=>some []
 | .str _=>some []
def DV.namess:aw->Option eU
 | []=>some []
 |v::r=>(v.names).bind fun l=>(DV.namess r).map (l++·)
end
def nT(draw init:Bool)(c b:Nat):Bool:=draw&&(if init then decide (b<c)else decide (c<=b))
def lV(r:aI)(b:Nat)(av:ae):Bool:=av.all fun t=>match lk r t with
 |some (.ptr b' _)=>b' !=b
 |_=>false
def b8(call:cj)(p:Id)(draw:Bool)(e i:Nat)(o:VOper)(s:St):pq:=
 match o.op with
 | .alloc k zero=>if eK s.B (e+k)/\zero.all DV.isCell then some ({s with B:=s.B.set (e+k) (some (zero.map .d))}.put o.dst (.ptr (e+k) 0))else none
 | .box k x=>
  (x.get s.r).bind fun v=>
   if eK s.B (e+k)/\v.cells.all AV.isCell/\v.safe (e+k)then
    some ({s with B:=s.B.set (e+k) (some v.cells)}.put o.dst (.ptr (e+k) 0))
   else none
 | .makeSlice k sz bytes zero x=>
  match x.get s.r with
  |some (.d (.int _ n))=>
   if draw=false/\eK s.B (e+k)/\0<=n/\n.toNat*bytes<=140737488355328/\n<9223372036854775808/\zero.cells.length=sz/\zero.cells.all DV.isCell then
    some ({s with B:=s.B.set (e+k) (some (((List.replicate n.toNat zero).flatMap DV.cells).map .d))}.put o.dst
     (.bsl ((s.c+i)::p) (match zero with| .agg _=>true|_=>false) (e+k) sz n.toNat))
   else none
  |_=>none
 | .load agg sz a=>
  match a.get s.r with
  |some (.ep cs)=>(cut agg sz cs).map fun v=>s.put o.dst (.d v)
  |some (.ptr b off)=>if draw/\e<=b then none else(aW s.B agg sz b off).map fun v=>s.put o.dst v
  |_=>none
 | .store init sz a x=>
  match a.get s.r,x.get s.r with
  |some (.ptr b off),some v=>if nT draw init e b then none else(vT s sz b off v).map fun s=>s.put o.dst .und
  |_,_=>none
 | .storeN sz a x av=>
  match a.get s.r,x.get s.r with
  |some (.ptr b off),some v=>if nT draw false e b|| !lV s.r b av then none else(vT s sz b off v).map fun s=>s.put o.dst .und
  |_,_=>none
 | .buildSlice sz zero len parts=>
  if zero.cells.length=sz/\zero.cells.all DV.isCell/\len*sz<=16777216/\len<=16777216 then
   (f6 (VX.get s.r) sz (List.replicate len zero) parts).map fun xs=>{s with A:=Ids.add ((s.c+i)::p) s.A}.put o.dst (.d (.sl (.own ((s.c+i)::p) sz) xs))
  else none
 | .append sz bytes x y=>
  match x.get s.r,y.get s.r with
  |some (.d v),some (.d w)=>(qU s ((s.c+i)::p) sz bytes v w).map fun(v,s)=>s.put o.dst v
  |_,_=>none
 | .call iso f args=>
  match f.get s.r,f0 s.r args with
  |some (.fn k caps),some vs=>
   if iso then
    match bd vs,caps with
    |some _,[]=>
     match call ((s.c+i)::p) k vs [] Ids.none with
     |some {v:= .d v,A,B:=_}=>some ({s with A:=Ids.or A s.A}.put o.dst (.d v))
     |_=>none
    |_,_=>none
   else
    match call ((s.c+i)::p) k (vs++caps) s.B s.A with
    |some {v,A,B}=>some ({s with A:=A,B:=B}.put o.dst v)
    |none=>none
  |_,_=>none
 |op=>(bo s.r op).map fun v=>s.put o.dst v
def gk(r:aI):qs->uL
 |none=>some true
 |some (t,c)=>
  match lk r t with
  |some (.d (.bool b))=>some (b==c)
  |some .und=>some false
  |_=>none
def cW(call:cj)(p:Id)(draw:Bool)(b:Nat):Nat->ak->St->pq
 |_,[],s=>some s
 |i,o::os,s=>
  match gk s.r o.guard with
  |some true=>(b8 call p draw b i o s).bind (cW call p draw b (i+1) os)
  |some false=>cW call p draw b (i+1) os (s.put o.dst .und)
  |none=>none
def keep(r:aI):ae->aI
 | []=>[]
 |t::ts=>
  match lk r t with
  |some v=>(t,v)::keep r ts
  |none=>keep r ts
def aB(m:Nat):aI->Bool
 | []=>true
 |(_,v)::r=>v.safe m&&aB m r
def dd:ae->ae
 | []=>[]
 |x::l=>if(dd l).contains x then dd l else x::dd l
def Me:ak->List ae->List ae
 | [],acc=>acc
 |o::os,acc=>Me os (acc++[dd (o.after.flatMap fun j=>j::acc.getD j [])])
inductive Kind where
 |pure|read|room|init|row|app|iso|eff
 deriving DecidableEq
def VOp.kind:VOp->Kind
 | .load _ _ _=> .read
 | .alloc _ _| .box _ _=> .room
 | .store init _ _ _=>if init then .init else .eff
 | .storeN _ _ _ _=> .eff
 | .buildSlice _ _ _ _=> .row
 | .append _ _ _ _=> .app
 | .call iso _ _=>if iso then .iso else .eff
 | .makeSlice _ _ _ _ _=> .eff
 |_=> .pure
def Kind.meet:Kind->Kind->Bool
 | .pure,_|_,.pure=>true
 | .eff,_|_,.eff=>false
 | .init,.room| .room,.init| .init,.init=>false
 | .app,.row| .row,.app| .app,.app| .app,.iso| .iso,.app=>false
 |_,_=>true
def VX.tmps:VX->ae
 | .t n=>[n]
 | .c _=>[]
def VOp.tmps:VOp->ae
 | .move x| .box _ x| .load _ _ x| .nilCheck x| .not x| .conv _ x| .fieldAddr _ x| .extract x _| .len _ x| .eqNil _ x| .makeSlice _ _ _ _ x=>x.tmps
 | .pick a b c=>a.tmps++b.tmps++c.tmps
 | .alloc _ _| .fail=>[]
 | .build _ ps=>ps.flatMap fun q=>q.2.2.tmps
 | .buildSlice _ _ _ ps=>ps.flatMap fun q=>q.2.tmps
 | .storeN _ a x av=>a.tmps++x.tmps++av
 | .store _ _ a x| .bin _ a x| .eqAgg _ _ a x| .eqB _ a x| .index a x| .indexAddr _ _ a x| .append _ _ a x| .max a x=>a.tmps++x.tmps
 | .slice _ _ x lo hi=>x.tmps++(lo.toList++hi.toList).flatMap VX.tmps
 | .makeFunc _ cs=>cs.flatMap VX.tmps
 | .call _ f as=>f.tmps++as.flatMap VX.tmps
def VOper.looks(o:VOper):ae:=o.op.tmps++(match o.guard with|some (t,_)=>[t]|none=>[])
def Ju(a b:VOper):Bool:=
 match a.dst with
 |some t=> !(b.looks.contains t)&& !(b.dst==some t)
 |none=>true
def q6n:VOp->VOp->Bool
 | .load _ _ (.t x),.storeN _ _ _ av=>av.contains x
 | .storeN _ _ _ av,.load _ _ (.t x)=>av.contains x
 |_,_=>false
def Ry(cl:List ae)(i j:Nat)(a b:VOper):Bool:=(cl.getD j []).contains i||((a.op.kind.meet b.op.kind||q6n a.op b.op)&&Ju a b&&Ju b a)
def Mp(cl:List ae)(i:Nat)(a:VOper):Nat->ak->Bool
 |_,[]=>true
 |j,b::r=>Ry cl i j a b&&Mp cl i a (j+1) r
def N5(cl:List ae):Nat->ak->Bool
 |_,[]=>true
 |i,a::r=>Mp cl i a (i+1) r&&N5 cl (i+1) r
def ahead:Nat->ak->Bool
 |_,[]=>true
 |i,o::r=>o.after.all (fun j=>decide (j<i))&&ahead (i+1) r
def vP(ops:ak):Bool:=ahead 0 ops&&N5 (Me ops []) 0 ops
structure SFn where
 np:Nat
 pre:VCode
 rest:VCode
 results:jt
 row:Nat
 cond:Nat
 srt:Nat
 cmp:Nat
structure Env where
 code:Nat->Option VFn
 nat:Nat->Option (Id->aG->r9)
 spec:Nat->Option SFn:=fun _=>none
 base:Nat->bi:=fun _=>none
def DV.like:DV->DV->Bool
 | .int k _,.int k' _=>decide (k=k')
 | .bool _,.bool _=>true
 | .str _,.str _=>true
 | .sl _ _,.sl _ _=>true
 |_,_=>false
mutual
def DV.rest(A:Ids)(a:Id)(d:aw):DV->Bool
 | .agg cs=>DV.rests A a d cs
 | .tup cs=>DV.rests A a d cs
 | .sl g xs=>(xs.isEmpty||(xs.flatMap DV.cells).any (fun c=>d.all fun r=> !c.like r)||(match g with| .own b _=>A b&& !decide (b=a)|_=>false))&&DV.rests A a d xs
 | .int _ _=>true
 | .bool _=>true
 | .str _=>true
def DV.rests(A:Ids)(a:Id)(b:aw):aw->Bool
 | []=>true
 |v::r=>v.rest A a b&&DV.rests A a b r
end
def AV.rest(A:Ids)(a:Id)(b:aw):AV->Bool
 | .d v=>v.rest A a b
 | .ptr _ _=>true
 | .nilp=>true
 | .bsl _ _ _ _ _=>true
 | .tsl _ _ _ _=>true
 | .und=>true
 | .fn _ []=>true
 |_=>false
def I1(A:Ids)(a:Id)(b:aw)(r:aI):Bool:=r.all fun q=>q.2.rest A a b
def O8(A:Ids)(a:Id)(c:aw)(B:az):Bool:=B.all fun b=>match b with|none=>true|some cs=>cs.all (AV.rest A a c)
def VCode.plain:VCode->Bool
 | .seq a b=>a.plain&&b.plain
 | .cond _ a b=>a.plain&&b.plain
 | .block _ c=>c.plain
 | .loop _ c=>c.plain
 | .regionS _ _ _ _ _ _ _ _ _ _=>false
 |_=>true
def VCode.over(m:Nat):VCode->Bool
 | .seq a b=>a.over m&&b.over m
 | .cond _ a b=>a.over m&&b.over m
 | .block _ c=>c.over m
 | .loop _ c=>c.over m
 |_=>true
def Lt(b:bi)(c:VCode):Bool:=
 match b with
 |none=>c.plain
 |some m=>c.over m
def FI(b:Nat)(live:ae)(s:St):pq:=
 let r:=keep s.r live
 if aB b r/\b<=s.B.length then some {s with r:=r,B:=s.B.take b}else none
def pJ(f:St->wG)(b:Nat)(live:ae):Nat->St->wG
 |0,_=>none
 |n+1,s=>
  (FI b live s).bind fun s0=>
   (f s0).bind fun r=>
    match r.1 with
    | .normal=>pJ f b live n r.2
    |_=>some r
def nn(call:cj)(p:Id)(draw:Bool)(na:Nat)(live:ae)(ops:ak)(s:St):pq:=
 if draw&& !vP ops then none
 else(cW call p draw s.B.length 0 ops {s with B:=s.B++List.replicate na none}).map fun s'=>{s' with r:=keep s'.r live,c:=s.c+ops.length}
def SS(t1:Nat)(i x:VX)(d:Nat)(f1 f2:ae):ak:=[⟨some d,.indexAddr 1 none (.t t1) i,none,f1⟩,⟨none,.store false 1 (.t d) x,none,f2⟩]
def VX.isnt(d:Nat):VX->Bool
 | .t n=>n !=d
 | .c _=>true
def dc(b:IntKind):DV->Bool
 | .int k _=>decide (k=b)
 |_=>false
def Nq(live:ae)(t t1:Nat)(i x:VX)(s1:St)(c:Nat):pq:=
 match lk s1.r t,lk s1.r t1,i.get s1.r,x.get s1.r with
 |some (.d (.sl (.own a sz) xs)),some (.d (.sl (.own a' b) e)),some (.d (.int _ k)),some (.d (.int h v))=>
  if a=a'/\sz=1/\b=1/\s1.A a=true/\0<=k/\k<xs.length/\k<e.length/\xs.all (dc h)=true/\live.contains t=false/\I1 s1.A a xs (keep s1.r live)=true/\O8 s1.A a xs s1.B=true then
   some ⟨(t,.d (.sl (.own a 1) (xs.set k.toNat (.int h v))))::keep s1.r live,s1.B,s1.A,c⟩
  else none
 |_,_,_,_=>none
def An(call:cj)(p:Id)(na:Nat)(live:ae)(pre:ak)(t t1:Nat)(i x:VX)(s:St):pq:=(cW call p false s.B.length 0 pre {s with B:=s.B++List.replicate na none}).bind fun s1=>Nq live t t1 i x s1 (s.c+(pre.length+2))
def cV(call:cj)(p:Id)(n:Nat):VCode->St->wG
 | .skip,s=>some (.normal,s)
 | .ret,s=>some (.ret,s)
 | .exit id,s=>some (.exit id,s)
 | .seq a b,s=>
  (cV call p n a s).bind fun r=>
   match r.1 with
   | .normal=>cV call p n b r.2
   |_=>some r
 | .region draw na live ops,s=>(nn call p draw na live ops s).map fun s'=>(.normal,s')
 | .cond x a b,s=>
  match x.get s.r with
  |some (.d (.bool true))=>cV call p n a s
  |some (.d (.bool false))=>cV call p n b s
  |_=>none
 | .block id c,s=>(cV call p n c s).map fun r=>if r.1= .exit id then(.normal,r.2)else r
 | .loop live c,s=>pJ (cV call p n c) s.B.length live n s
 | .regionF draw na live fs,s=>(nn call p draw na live (iw fs) s).map fun s'=>(.normal,s')
 | .regionS na live pre t t1 i x _ _ _,s=>(An call p na live pre t t1 i x s).map fun s'=>(.normal,s')
def oj(s:St):VRes->a8
 | .tmp t=>lk s.r t
 | .cell t agg sz=>
  match lk s.r t with
  |some (.ptr i off)=>aW s.B agg sz i off
  |_=>none
def qG(s:St):jt->Option aG
 | []=>some []
 |x::xs=>(oj s x).bind fun v=>(qG s xs).map (v::·)
def finish(L:Nat)(p:Id)(s:St)(b:jt):Option Res:=
 match qG s b with
 |some [.d v]=>some ⟨.d v,s.A,s.B.take L⟩
 |some [.ptr i off]=>some ⟨.ptr i off,s.A,s.B⟩
 |some [.bsl _ agg i sz n]=>
  if L<=i/\n<9223372036854775808 then
   ((b5 s.B i).bind bd).bind fun cs=>if cs.length=n*sz then(chunks agg sz n cs).map fun xs=>⟨.d (.sl (.own (s.c::p) sz) xs),Ids.add (s.c::p) s.A,s.B.take L⟩else none
  else none
 |some [_]=>none
 |some vs=>(bd vs).map fun ds=>⟨.d (.tup ds),s.A,s.B.take L⟩
 |none=>none
def bn:Nat->aG->aI
 |_,[]=>[]
 |i,v::r=>(i,v)::bn (i+1) r
def DV.flat:DV->Bool
 | .int _ _=>true
 | .bool _=>true
 | .str _=>true
 | .sl _ []=>true
 |_=>false
def sd(call:cj)(p:Id)(sf:SFn)(A:Ids)(a:Id)(x:DV)(xr:aw):Option (aw×Ids):=
 (DV.namess (x::xr)).bind fun l=>
  if A a=true/\l.all A=true/\l.contains a=false then
   match call p sf.srt [.tsl true 0 x.cells.length (xr.length+1),.fn sf.cmp []] [some (((x::xr).flatMap DV.cells).map .d)] (fun b=>l.contains b)with
   |some ⟨_,c,[some cs]⟩=>(bd cs).bind fun es=>if es.length=(xr.length+1)*x.cells.length then(chunks true x.cells.length (xr.length+1) es).map fun e=>(e,Ids.add a c)else none
   |_=>none
  else none
def GB(s:St):Option (DV×DV):=
 match lk s.r 3,lk s.r 4,s.B with
 |some (.ptr 0 0),some (.ptr 1 0),[some [.d c,.d b,_],some [.d j,.d e,.d h]]=>if c.flat&&b.flat&&j.flat&&e.flat&&h.flat&&c.isCell&&b.isCell then some (c,b)else none
 |_,_,_=>none
def p8(call:cj)(n:Nat)(p:Id)(sf:SFn)(ds:aw):r9:=
 if ds.length≠sf.np then none else
  (cV call p n sf.pre ⟨bn 0 (ds.map .d),[],Ids.none,0⟩).bind fun r=>
   match r.1,lk r.2.r sf.cond,lk r.2.r sf.row with
   | .normal,some (.d (.bool true)),some (.d (.sl (.own a sz) (x::xr)))=>(GB r.2).bind fun y=>(sd call ((r.2.c+1)::p) sf r.2.A a x xr).map fun q=>(.agg [y.1,y.2,.sl (.own a sz) q.1],q.2)
   | .normal,some (.d (.bool false)),_| .normal,some (.d (.bool true)),some (.d (.sl _ []))=>
    (cV call p n sf.rest r.2).bind fun b=>
     match b.1 with
     | .exit _=>none
     |_=>(finish 0 p b.2 sf.results).bind fun q=>match q.v with
      | .d v=>some (v,q.A)
      |_=>none
   |_,_,_=>none
def dY(E:Env):Nat->cj
 |0,_,_,_,_,_=>none
 |n+1,p,f,args,B,A=>
  match E.nat f with
  |some g=>(bd args).bind fun _=>(g p args).map fun r=>⟨.d r.1,Ids.or r.2 A,B⟩
  |none=>
   match E.code f with
   |none=>
    match E.spec f with
    |none=>none
    |some sf=>(bd args).bind fun ds=>(p8 (dY E n) n p sf ds).map fun r=>⟨.d r.1,Ids.or r.2 A,B⟩
   |some vf=>
    if args.length≠vf.np then none else
     match E.base f with
     |none=>(cV (dY E n) p n vf.code ⟨bn 0 args,B,A,0⟩).bind fun r=>
      match r.1 with
      | .exit _=>none
      |_=>finish B.length p r.2 vf.results
     |some m=>if B.length≠m then none else(cV (dY E n) p n vf.code ⟨bn 0 args,B,Ids.none,0⟩).bind fun r=>
      match r.1 with
      | .exit _=>none
      |_=>(finish B.length p r.2 vf.results).map fun q=>⟨q.v,Ids.or q.A A,q.B⟩
def Ta(d b h e:VCode)(srt cmp:Nat):VFn:=⟨2,[.cell 4 true 3],.seq d (.seq b (.seq h (.seq
 (.seq e (.cond (.t 42) (.region false 0 [3,4,5] [⟨some 43,.move (.t 5),none,[]⟩,⟨some 44,.call false (.c (.fn srt [])) [.t 43,.c (.fn cmp [])],none,[]⟩]) .skip))
 (.seq (.region false 0 [3,4] [⟨some 45,.move (.t 5),none,[]⟩,⟨some 46,.fieldAddr 2 (.t 3),none,[]⟩,⟨none,.store false 1 (.t 46) (.t 45),none,[]⟩])
 (.seq (.region false 0 [4] [⟨some 47,.load true 3 (.t 3),none,[]⟩,⟨none,.store false 3 (.t 4) (.t 47),none,[]⟩]) .ret)))))⟩
def qZ(d b h e:VCode)(srt cmp:Nat):SFn:=⟨2,.seq d (.seq b (.seq h e)),
 .seq (.cond (.t 42) (.region false 0 [3,4,5] [⟨some 43,.move (.t 5),none,[]⟩,⟨some 44,.call false (.c (.fn srt [])) [.t 43,.c (.fn cmp [])],none,[]⟩]) .skip)
 (.seq (.region false 0 [3,4] [⟨some 45,.move (.t 5),none,[]⟩,⟨some 46,.fieldAddr 2 (.t 3),none,[]⟩,⟨none,.store false 1 (.t 46) (.t 45),none,[]⟩])
 (.seq (.region false 0 [4] [⟨some 47,.load true 3 (.t 3),none,[]⟩,⟨none,.store false 3 (.t 4) (.t 47),none,[]⟩]) .ret)),[.cell 4 true 3],5,42,srt,cmp⟩
def wH:List (Nat×SFn)->Nat->Option SFn
 | [],_=>none
 |(k,v)::r,n=>if n=k then some v else wH r n
theorem Hf:∀{l:List (Nat×SFn)} {k:Nat} {v:SFn},wH l k=some v->(k,v)∈l
 | [],_,_,h=>by simp[wH]at h
 |(a,u)::r,k,v,h=>by
  simp only[wH]at h;split at h
  ·rename_i b
   simp at h;subst h;subst b;simp
  ·exact jn _ (Hf h)
variable{c':cj}{n m:Nat}
section
open Classical
def o9(c c':cj):Prop:=∀p f as B O r,c p f as B O=some r->c' p f as B O=some r
def iL{σ τ:Type}(f g:σ->Option τ):Prop:=∀s r,f s=some r->g s=some r
theorem qJY{c:cj}(h:o9 c c')(p:Id)(draw:Bool)(e i:Nat)(o:VOper):iL (b8 c p draw e i o) (b8 c' p draw e i o):=by
 intro s r hr;obtain⟨dst,op,g,q⟩:=o;cases op
 case call iso f args=>
  simp only[b8]at hr⊢
  split at hr
  ·rename_i k caps vs j t
   split at hr
   ·rename_i b
    simp only[b,if_true];split at hr
    ·rename_i ds l d
     split at hr
     ·rename_i v A B hc
      rw[h _ _ _ _ _ _ hc];exact hr
     ·simp at hr
    ·simp at hr
   ·rename_i b
    simp only[b];split at hr
    ·rename_i hc
     rw[h _ _ _ _ _ _ hc];exact hr
    ·simp at hr
  ·simp at hr
 all_goals exact hr
theorem MG{c:cj}(h:o9 c c')(p:Id)(draw:Bool)(b:Nat)(os:ak):∀i,iL (cW c p draw b i os) (cW c' p draw b i os):=by
 induction os with
 |nil=>intro i s r hr;exact hr
 |cons o os d=>
  intro i s r hr;simp only[cW]at hr⊢
  split at hr
  ·obtain⟨s1,e,j⟩:=aL.1 hr
   exact aL.2 ⟨s1,qJY h p draw b i o s s1 e,d _ _ _ j⟩
  ·exact d _ _ _ hr
  ·simp at hr
theorem JX{c:cj}(h:o9 c c')(p:Id)(draw:Bool)(na:Nat)(live:ae)(ops:ak):iL (nn c p draw na live ops) (nn c' p draw na live ops):=by
 intro s r hr;unfold nn at hr⊢
 split
 ·simp_all
 ·rename_i d
  simp only[d]at hr;obtain⟨s1,b,e⟩:=aN.1 hr;exact aN.2 ⟨s1,MG h p draw _ ops 0 _ _ b,e⟩
theorem VZ{f g:St->wG}(h:iL f g)(b:Nat)(live:ae):∀n m,n<=m->iL (pJ f b live n) (pJ g b live m):=by
 intro n
 induction n with
 |zero=>intro m _ s r hr;simp[pJ]at hr
 |succ n d=>
  intro m l s r hr;obtain⟨m,rfl⟩:∃k,m=k+1:=⟨m-1,by omega⟩;simp only[pJ]at hr⊢
  obtain⟨s0,j,hr⟩:=aL.1 hr;obtain⟨⟨e,s1⟩,c,hr⟩:=aL.1 hr;refine aL.2 ⟨s0,j,aL.2 ⟨(e,s1),h _ _ c,?_⟩⟩;cases e with
  |normal=>exact d m (by omega) _ _ hr
  |exit id=>exact hr
  |ret=>exact hr
theorem u5{c:cj}(h:o9 c c')(p:Id)(F:n<=m)(vc:VCode):iL (cV c p n vc) (cV c' p m vc):=by
 induction vc with
 |skip=>intro s r hr;exact hr
 |ret=>intro s r hr;exact hr
 |exit id=>intro s r hr;exact hr
 |seq a b k o=>
  intro s r hr;simp only[cV]at hr⊢
  obtain⟨⟨e,s1⟩,j,hr⟩:=aL.1 hr;refine aL.2 ⟨(e,s1),k _ _ j,?_⟩;cases e with
  |normal=>exact o _ _ hr
  |exit id=>exact hr
  |ret=>exact hr
 |region draw na live ops=>
  intro s r hr;simp only[cV]at hr⊢
  obtain⟨s1,j,l⟩:=aN.1 hr;exact aN.2 ⟨s1,JX h p draw na live ops _ _ j,l⟩
 |regionF draw na live fs=>
  intro s r hr;simp only[cV]at hr⊢
  obtain⟨s1,j,l⟩:=aN.1 hr;exact aN.2 ⟨s1,JX h p draw na live (iw fs) _ _ j,l⟩
 |regionS na live pre t t1 i x d f1 f2=>
  intro s r hr;simp only[cV,An]at hr⊢
  obtain⟨s1,j,l⟩:=aN.1 hr;obtain⟨y,z,C⟩:=aL.1 j;exact aN.2 ⟨s1,aL.2 ⟨y,MG h p false _ pre 0 _ _ z,C⟩,l⟩
 |cond x a b k o=>
  intro s r hr;simp only[cV]at hr⊢
  split at hr
  ·exact k _ _ hr
  ·exact o _ _ hr
  ·simp at hr
 |block id D q=>
  intro s r hr;simp only[cV]at hr⊢
  obtain⟨s1,j,l⟩:=aN.1 hr;exact aN.2 ⟨s1,q _ _ j,l⟩
 |loop live D q=>
  intro s r hr;simp only[cV]at hr⊢
  exact VZ q _ _ n m F _ _ hr
theorem YJ{c:cj}(h:o9 c c')(p:Id)(sf:SFn)(A:Ids)(a:Id)(x:DV)(xr:aw):∀r,sd c p sf A a x xr=some r->sd c' p sf A a x xr=some r:=by
 intro r hr;unfold sd at hr⊢
 obtain⟨l,d,hr⟩:=aL.1 hr;refine aL.2 ⟨l,d,?_⟩;split at hr
 ·rename_i hc
  rw[ay hc];split at hr
  ·rename_i v e cs b
   rw[h _ _ _ _ _ _ b];exact hr
  ·simp at hr
 ·simp at hr
theorem QR{c:cj}(h:o9 c c')(l:n<=m)(p:Id)(sf:SFn)(ds:aw):∀r,p8 c n p sf ds=some r->p8 c' m p sf ds=some r:=by
 intro r hr;unfold p8 at hr⊢
 split at hr
 ·simp at hr
 rename_i j;rw[aC j];obtain⟨⟨e,s⟩,t,b⟩:=aL.1 hr;refine aL.2 ⟨(e,s),u5 h p l sf.pre _ _ t,?_⟩;simp only at b⊢
 split at b
 ·rename_i a sz x xr o D
  obtain⟨y,z,C⟩:=aL.1 b;obtain⟨q,k,d⟩:=aN.1 C;exact aL.2 ⟨y,z,aN.2 ⟨q,YJ h _ _ _ _ _ _ _ k,d⟩⟩
 ·rename_i o
  obtain⟨q,k,d⟩:=aL.1 b;exact aL.2 ⟨q,u5 h p l sf.rest _ _ k,d⟩
 ·rename_i g o D
  obtain⟨q,k,d⟩:=aL.1 b;exact aL.2 ⟨q,u5 h p l sf.rest _ _ k,d⟩
 ·simp at b
theorem Sv(E:Env):∀n,o9 (dY E n) (dY E (n+1)):=by
 intro n
 induction n with
 |zero=>intro p f as B O r hr;simp[dY]at hr
 |succ n j=>
  intro p f as B O r hr;rw[dY]at hr⊢
  split
  ·rename_i g d
   rw[d]at hr;exact hr
  ·rename_i d
   simp only[d]at hr;split
   ·rename_i h
    simp only[h]at hr;split
    ·rename_i k;simp[k]at hr
    ·rename_i sf k
     simp only[k]at hr;obtain⟨ds,b,c⟩:=aL.1 hr;obtain⟨q,o,s⟩:=aN.1 c;exact aL.2 ⟨ds,b,aN.2 ⟨q,QR j (b7 n) p sf ds _ o,s⟩⟩
   ·rename_i vf h
    simp only[h]at hr;split at hr
    ·simp at hr
    ·rename_i e
     rw[aC e];split at hr
     ·rename_i l
      obtain⟨s1,b,c⟩:=aL.1 hr;exact aL.2 ⟨s1,u5 j p (b7 n) vf.code _ _ b,c⟩
     ·rename_i m l
      split at hr
      ·simp at hr
      rename_i t;rw[aC t];obtain⟨s1,b,c⟩:=aL.1 hr;exact aL.2 ⟨s1,u5 j p (b7 n) vf.code _ _ b,c⟩
theorem P2(E:Env)(h:n<=m):o9 (dY E n) (dY E m):=by
 induction h with
 |refl=>intro p f as B O r hr;exact hr
 |step _ b=>intro p f as B O r hr;exact Sv E _ _ _ _ _ _ _ (b _ _ _ _ _ _ hr)
noncomputable def lim(f:Nat->Option α):Option α:=if h:∃n,(f n).isSome then f (Classical.choose h)else none
theorem CJ{f:Nat->Option α}(d:∀n m r,n<=m->f n=some r->f m=some r)(r:α):lim f=some r↔∃n,f n=some r:=by
 unfold lim;split
 ·rename_i h
  have j:=Classical.choose_spec h;obtain⟨x,hx⟩:=Na.1 j;constructor
  ·intro e;exact⟨_,e⟩
  ·rintro⟨n,c⟩
   rcases Nat.le_total n (Classical.choose h)with b|b
   ·exact d _ _ _ b c
   ·have:=d _ _ _ b hx
    rw[c]at this;rw[hx,<-this]
 ·rename_i h
  constructor
  ·intro e;simp at e
  ·rintro⟨n,c⟩;exact absurd ⟨n,by simp[c]⟩ h
noncomputable def AM(E:Env):cj:=fun p f as B O=>lim fun n=>dY E n p f as B O
theorem Ru{E:Env}{p:Id}{f:Nat}{as:aG}{B:az}{O:Ids}{r:Res}:AM E p f as B O=some r↔∃n,dY E n p f as B O=some r:=CJ (fun n m r h hr=>P2 E h _ _ _ _ _ _ hr) r
theorem lY{a b:Option α}(h:∀r,a=some r↔b=some r):a=b:=by
 cases a with
 |none=>cases b with
  |none=>rfl
  |some x=>exact absurd ((h x).2 rfl) (by simp)
 |some x=>exact((h x).1 rfl).symm
end
theorem aY(k:IntKind)(n:Int):(DV.int k n).isCell=true:=rfl
theorem qxg(b:Bool):(DV.bool b).isCell=true:=rfl
theorem Zz(s:ByteArray):(DV.str s).isCell=true:=rfl
theorem a6(g:Tag)(xs:aw):(DV.sl g xs).isCell=true:=rfl
theorem bb(v:DV):(AV.d v).isCell=v.isCell:=rfl
theorem P8(i o:Nat):(AV.ptr i o).isCell=true:=rfl
theorem XL(f:Nat)(c:aG):(AV.fn f c).isCell=true:=rfl
theorem t_(k:IntKind)(n:Int):(DV.int k n).cells=[.int k n]:=rfl
theorem VL(b:Bool):(DV.bool b).cells=[.bool b]:=rfl
theorem SX(s:ByteArray):(DV.str s).cells=[.str s]:=rfl
theorem Wu(g:Tag)(xs:aw):(DV.sl g xs).cells=[.sl g xs]:=rfl
theorem qKM(cs:aw):(DV.agg cs).cells=cs:=rfl
theorem Ri(k:IntKind)(n:Int):(AV.d (.int k n)).cells=[.d (.int k n)]:=rfl
theorem qxN(b:Bool):(AV.d (.bool b)).cells=[au b]:=rfl
theorem VV(s:ByteArray):(AV.d (.str s)).cells=[.d (.str s)]:=rfl
theorem Zh(g:Tag)(xs:aw):(AV.d (.sl g xs)).cells=[.d (.sl g xs)]:=rfl
theorem qCK(cs:aw):(AV.d (.agg cs)).cells=cs.map .d:=rfl
theorem Ve(i o:Nat):(AV.ptr i o).cells=[.ptr i o]:=rfl
theorem Vi(f:Nat)(c:aG):(AV.fn f c).cells=[.fn f c]:=rfl
theorem ba(m:Nat)(v:DV):(AV.d v).safe m=true:=by unfold AV.safe;rfl
theorem Oz(m i o:Nat):(AV.ptr i o).safe m=decide (i<m):=by unfold AV.safe;rfl
theorem ix(m f:Nat)(c:aG):(AV.fn f c).safe m=AV.safe.safes m c:=by rw[AV.safe]
theorem WG(m:Nat)(id:Id)(a:Bool)(i sz n:Nat):(AV.bsl id a i sz n).safe m=decide (i<m):=by unfold AV.safe;rfl
theorem fN(m:Nat)(a:Bool)(i sz n:Nat):(AV.tsl a i sz n).safe m=decide (i<m):=by unfold AV.safe;rfl
theorem eP(m:Nat):AV.safe.safes m []=true:=by unfold AV.safe.safes;rfl
theorem De(m:Nat)(a:AV)(r:aG):AV.safe.safes m (a::r)=(a.safe m&&AV.safe.safes m r):=by rw[AV.safe.safes]
theorem qJ9(op:BinOp)(k:IntKind)(x y:Int):mV op (.int k x) (.int k y)=d7 op k x y:=by cases op<;>first|rfl|exact ay rfl
theorem qJ8(k:IntKind)(x y:Int):d7 .add k x y=some (.int k (k.wrap (x+y))):=rfl
theorem RF(k:IntKind)(x y:Int):d7 .sub k x y=some (.int k (k.wrap (x-y))):=rfl
theorem RL(k:IntKind)(x y:Int):d7 .mul k x y=some (.int k (k.wrap (x*y))):=rfl
theorem YP(k:IntKind)(x y:Int):d7 .eql k x y=some (.bool (x==y)):=rfl
theorem qJ1(k:IntKind)(x y:Int):d7 .neq k x y=some (.bool (x !=y)):=rfl
theorem qJ3(k:IntKind)(x y:Int):d7 .lss k x y=some (.bool (decide (x<y))):=rfl
theorem Qi(k:IntKind)(x y:Int):d7 .leq k x y=some (.bool (decide (x<=y))):=rfl
theorem qJ5(k:IntKind)(x y:Int):d7 .gtr k x y=some (.bool (decide (x>y))):=rfl
theorem VK(k:IntKind)(x y:Int):d7 .geq k x y=some (.bool (decide (x>=y))):=rfl
theorem q2b(n:Nat):lk [] n=none:=rfl
theorem SC(t:Nat)(v:AV)(r:aI)(n:Nat):lk ((t,v)::r) n=if n=t then some v else lk r n:=rfl
theorem Rp(r:aI)(n:Nat):VX.get r (.t n)=lk r n:=rfl
theorem q6l(r:aI)(v:AV):VX.get r (.c v)=some v:=rfl
theorem qOw(r:aI):keep r []=[]:=rfl
theorem W_(r:aI)(t:Nat)(ts:ae):keep r (t::ts)=match lk r t with|some v=>(t,v)::keep r ts|none=>keep r ts:=rfl
def IE(v:a8)(w:Bool):uL:=
 match v with
 |some (.d (.bool b))=>some (b==w)
 |some .und=>some false
 |_=>none
theorem Zt(r:aI):gk r none=some true:=rfl
theorem qYj(r:aI)(t:Nat)(w:Bool):gk r (some (t,w))=IE (lk r t) w:=rfl
theorem WC(b w:Bool):IE (some (au b)) w=some (b==w):=rfl
theorem Ym(w:Bool):IE (some .und) w=some false:=rfl
def runN{β γ:Type}(step:β->Nat->β⊕γ):Nat->β->Nat->β⊕γ
 |0,a,_=> .inl a
 |k+1,a,i=>match step a i with
  | .inl a'=>runN step k a' (i+1)
  | .inr r=> .inr r
variable{w w' w'':World}{u:Value}{A':Ids}{N:Id->Prop}
section
structure Gh where
 K:Nat->Nat
 row:Id->Option (Nat×Nat×Nat×Nat)
 bx:Nat->bi
inductive VR(g:Gh)(w:World):DV->Value->Prop where
 |int (k:IntKind) (n:Int):VR g w (.int k n) (.int k n)
 |bool (b:Bool):VR g w (.bool b) (.bool b)
 |str (s:ByteArray):VR g w (.str s) (.string s)
 |agg (cs:aw) (us:ee):us.size=cs.length->(∀v:DV,v∈cs->v.isCell=true)->(∀(j:Nat) (v:DV) (u:Value),cs[j]?=some v->us[j]?=some u->VR g w v u)->VR g w (.agg cs) (.agg us)
 |tup (cs:aw) (us:ee):us.size=cs.length->(∀(j:Nat) (v:DV) (u:Value),cs[j]?=some v->us[j]?=some u->VR g w v u)->VR g w (.tup cs) (.tuple us)
 |nil:VR g w (.sl .nil []) (.slice none 0 0)
 |row (t:Tag) (xs:aw) (ad:Addr) (c s:Nat) (U:Nat->Value):t≠.nil->xs.length<=c->c<=maxLen->
  (∀k,k<xs.length*s->w.cell? (ad.add k)=some (U k))->(xs.length*s=0\/ad.off+xs.length*s<=g.K ad.block)->
  (∀(i:Nat) (x:DV),xs[i]?=some x->x.cells.length=s/\∀v:DV,v∈x.cells->v.isCell=true)->
  (∀(i:Nat) (x:DV) (j:Nat) (v:DV),xs[i]?=some x->x.cells[j]?=some v->VR g w v (U (i*s+j)))->
  (∀a sz,t= .own a sz->ad.off=0/\ad.spot=none/\s=sz/\g.row a=some (ad.block,xs.length,c,s)/\(xs=[]->c=0))->
  VR g w (.sl t xs) (.slice (some ad) xs.length c)
structure ExtV(g:Gh)(w:World)(g':Gh)(w':World):Prop where
 K:∀b,g.K b<=g'.K b
 cell:∀ad:Addr,ad.off<g.K ad.block->w'.cell? ad=w.cell? ad
 row:∀a x,g.row a=some x->g'.row a=some x
theorem ExtV.refl(g:Gh)(w:World):ExtV g w g w:=⟨fun _=>bI _,fun _ _=>rfl,fun _ _ h=>h⟩
theorem ExtV.trans{g g' c:Gh}(h:ExtV g w g' w')(h':ExtV g' w' c w''):ExtV g w c w'':=⟨fun b=>eG (h.K b) (h'.K b),fun ad d=>(h'.cell ad (B4 d (h.K _))).trans (h.cell ad d),fun a x hx=>h'.row a x (h.row a x hx)⟩
theorem add_block(ad:Addr)(k:Nat):(ad.add k).block=ad.block:=by unfold Addr.add;split<;>rfl
theorem Kn(ad:Addr)(k:Nat):(ad.add k).off=ad.off+k:=by unfold Addr.add;split<;>simp_all
theorem VR.mono{g g':Gh}(e:ExtV g w g' w'){v:DV}(h:VR g w v u):VR g' w' v u:=by
 induction h with
 |int k n=>exact .int k n
 |bool b=>exact .bool b
 |str s=>exact .str s
 |agg cs us o hc _ l=>exact .agg cs us o hc l
 |tup cs us o _ l=>exact .tup cs us o l
 |nil=>exact .nil
 |row t xs ad c s U H q z d G hc _ j l=>
  refine .row t xs ad c s U H q z (fun k D=> ?_) (G.imp_right fun h=>eG h (e.K _)) hc l (fun a sz F=> ?_)
  ·rw[e.cell _ (by rw[add_block,Kn];omega)]
   exact d k D
  ·obtain⟨C,p,I,x,y⟩:=j a sz F
   exact⟨C,p,I,e.row _ _ x,y⟩
variable (fid:Nat->FuncId)
inductive AVR(g:Gh)(w:World):AV->Value->Prop where
 |d (v:DV) (u:Value):VR g w v u->AVR g w (.d v) u
 |ptr (i off b:Nat):g.bx i=some b->AVR g w (.ptr i off) (.pointer (some ⟨b,off,none⟩))
 |ep (cs:aw) (ad:Addr) (U:Nat->Value):ad.spot=none->ad.off+cs.length<=g.K ad.block->(∀(j:Nat) (v:DV),cs[j]?=some v->w.cell? (ad.add j)=some (U j)/\v.isCell=true/\VR g w v (U j))->AVR g w (.ep cs) (.pointer (some ad))
 |nilp:AVR g w .nilp (.pointer none)
 |fn (f:Nat) (cap:aG) (us:ee):us.size=cap.length->(∀(j:Nat) (v:AV) (u:Value),cap[j]?=some v->us[j]?=some u->AVR g w v u)->AVR g w (.fn f cap) (.func (.func (fid f)) #[] us)
 |bsl (id:Id) (agg:Bool) (i sz n b:Nat):g.bx i=some b->AVR g w (.bsl id agg i sz n) (.slice (some ⟨b,0,none⟩) n n)
 |tsl (agg:Bool) (i sz n c b:Nat):g.bx i=some b->n<=c->c<=maxLen->AVR g w (.tsl agg i sz n) (.slice (some ⟨b,0,none⟩) n c)
 |ag (cs:aG) (us:ee):us.size=cs.length->(∀(j:Nat) (v:AV) (u:Value),cs[j]?=some v->us[j]?=some u->AVR g w v u)->AVR g w (.ag false cs) (.agg us)
 |tp (cs:aG) (us:ee):us.size=cs.length->(∀(j:Nat) (v:AV) (u:Value),cs[j]?=some v->us[j]?=some u->AVR g w v u)->AVR g w (.ag true cs) (.tuple us)
 |und:AVR g w .und undef
structure Ext(g:Gh)(w:World)(g':Gh)(w':World):Prop where
 toExtV:ExtV g w g' w'
 bx:∀i b,g.bx i=some b->g'.bx i=some b
theorem Ext.refl(g:Gh)(w:World):Ext g w g w:=⟨ExtV.refl g w,fun _ _ h=>h⟩
theorem Ext.trans{g g' c:Gh}(h:Ext g w g' w')(h':Ext g' w' c w''):Ext g w c w'':=⟨ExtV.trans h.toExtV h'.toExtV,fun i b d=>h'.bx i b (h.bx i b d)⟩
theorem AVR.mono{g g':Gh}(e:Ext g w g' w'){v:AV}(h:AVR fid g w v u):AVR fid g' w' v u:=by
 induction h with
 |d v u h=>exact .d v u (h.mono e.toExtV)
 |ptr i off b h=>exact .ptr i off b (e.bx _ _ h)
 |ep cs ad U k t h=>
  exact .ep cs ad U k (eG t (e.toExtV.K _)) fun j v q=>by obtain⟨o,p,x⟩:=h j v q;have s:j<cs.length:=(cw.1 q).1;exact⟨by rw[e.toExtV.cell _ (by rw[add_block,Kn];omega)];exact o,p,x.mono e.toExtV⟩
 |nilp=>exact .nilp
 |fn f cap us k _ l=>exact .fn f cap us k l
 |bsl id agg i sz n b h=>exact .bsl id agg i sz n b (e.bx _ _ h)
 |tsl agg i sz n c b h o p=>exact .tsl agg i sz n c b (e.bx _ _ h) o p
 |ag cs us k _ l=>exact .ag cs us k l
 |tp cs us k _ l=>exact .tp cs us k l
 |und=>exact .und
structure Core(g:Gh)(w:World)(B:az)(A:Ids):Prop where
 box:∀i b,g.bx i=some b->∃cs arr e,B[i]?=some (some cs)/\w.heap[b]?=some (.cells arr e (0,0))/\cs.length<=arr.size/\
  (∀(j:Nat) (v:AV) (u:Value),cs[j]?=some v->arr[j]?=some u->AVR fid g w v u)/\(∀v,v∈cs->v.isCell=true/\v.safe i=true)/\g.K b=0
 inj:∀i j b,g.bx i=some b->g.bx j=some b->i=j
 opn:∀a,A a=true->∃b n c sz arr e,g.row a=some (b,n,c,sz)/\w.heap[b]?=some (.cells arr e (0,0))/\c*sz<=arr.size/\g.K b=n*sz/\n<=c/\(∀i,g.bx i≠some b)
 apart:∀a a' b x x',A a=true->A a'=true->g.row a=some (b,x)->g.row a'=some (b,x')->a=a'
 K0:∀b,w.heap.size<=b->g.K b=0
def Gh.blk(g:Gh)(a:Id):bi:=(g.row a).map (·.1)
structure Step(N:Id->Prop)(g:Gh)(w:World)(A:Ids)(g':Gh)(w':World)(A':Ids):Prop where
 os:w'.os=w.os
 tape:w'.tape=w.tape
 output:w'.output=w.output
 size:w.heap.size<=w'.heap.size
 ext:ExtV g w g' w'
 keep:∀b,b<w.heap.size->(∀i,g.bx i≠some b)->(∀a,A a=true->g.blk a≠some b)->w'.heap[b]?=w.heap[b]?/\g'.K b=g.K b
 new:∀a,g'.row a≠g.row a->N a
 org:∀a b,A' a=true->g'.blk a=some b->w.heap.size<=b\/∃a0,A a0=true/\g.blk a0=some b
 arr:∀(b:Nat) (c:ee) (e:TypeId) (z:Nat×Nat),w.heap[b]?=some (Obj.cells c e z)->∃c':ee,w'.heap[b]?=some (Obj.cells c' e z)/\c'.size=c.size
structure Boxes(g:Gh)(w:World)(g':Gh):Prop where
 old:∀i b,g.bx i=some b->g'.bx i=some b
 new:∀i b,g'.bx i=some b->g.bx i=some b\/w.heap.size<=b
theorem Boxes.refl(g:Gh)(w:World):Boxes g w g:=⟨fun _ _ h=>h,fun _ _ h=> .inl h⟩
theorem Boxes.trans{g g' c:Gh}(h:Boxes g w g')(j:w.heap.size<=w'.heap.size)(h':Boxes g' w' c):Boxes g w c:=
 ⟨fun i b e=>h'.old i b (h.old i b e),fun i b e=>by
  rcases h'.new i b e with d|d
  ·exact h.new i b d
  ·exact .inr (eG j d)⟩
theorem Step.refl(N:Id->Prop)(g:Gh)(w:World)(A:Ids):Step N g w A g w A:=⟨rfl,rfl,rfl,bI _,.refl g w,fun _ _ _ _=>⟨rfl,rfl⟩,fun a h=>absurd rfl h,fun a b d j=> .inr ⟨a,d,j⟩,fun b c e z h=>⟨c,h,rfl⟩⟩
theorem Step.trans{g g' q:Gh}{A o:Ids}(h:Step N g w A g' w' A')(H:Boxes g w g')(h':Step N g' w' A' q w'' o):Step N g w A q w'' o:=by
 refine⟨h'.os.trans h.os,h'.tape.trans h.tape,h'.output.trans h.output,eG h.size h'.size,h.ext.trans h'.ext,fun b t l x=> ?_,fun a F=> ?_,fun a b x D=> ?_,fun b c e z H=> ?_⟩
 ·obtain⟨d,s⟩:=h.keep b t l x
  have j:b<w'.heap.size:=B4 t h.size;obtain⟨y,C⟩:=h'.keep b j (fun i hi=>by
   rcases H.new i b hi with p|p
   ·exact l i p
   ·omega) (fun a G k=>by
    rcases h.org a b G k with p|⟨a0,p,I⟩
    ·omega
    ·exact x a0 p I)
  exact⟨y.trans d,C.trans s⟩
 ·by_cases d:g'.row a=g.row a
  ·exact h'.new a (by rw[d];exact F)
  ·exact h.new a d
 ·rcases h'.org a b x D with d|⟨a0,d,s⟩
  ·exact .inl (eG h.size d)
  ·exact h.org a0 b d s
 ·obtain⟨J,d,s⟩:=h.arr b c e z H
  obtain⟨K,y,C⟩:=h'.arr b J e z d;exact⟨K,y,C.trans s⟩
theorem Step.weaken{b:Id->Prop}{g g':Gh}{A:Ids}(h:Step N g w A g' w' A')(d:∀a,N a->b a):Step b g w A g' w' A':={h with new:=fun a c=>d a (h.new a c)}
def qPr(g:Gh)(w:World)(r:aI)(b:ee):Prop:=∀t v,lk r t=some v->AVR fid g w v (b.getD t undef)
theorem qPr.mono{g g':Gh}(e:Ext g w g' w'){r:aI}{b:ee}(h:qPr fid g w r b):qPr fid g' w' r b:=fun t v c=>(h t v c).mono fid e
end
section
def MU:Value->DV->Bool
 | .int k n,.int k' c=>decide (k=k')&&decide (n=c)
 | .bool b,.bool b'=>b==b'
 | .string s,.str s'=>decide (s=s')
 | .slice none 0 0,.sl .nil []=>true
 |_,_=>false
def Ho:cX->aw->Bool
 | [],[]=>true
 |u::us,v::vs=>MU u v&&Ho us vs
 |_,_=>false
def K3:Value->DV->Bool
 | .agg us,.agg vs=>Ho us.toList vs
 |u,v=>MU u v
variable (P:Program) (fid:Nat->FuncId)
def b6:Operand->VX->Bool
 | .tmp t,.t e=>t==e
 | .const (.pointer none),.c .nilp=>true
 | .const u,.c (.d v)=>K3 u v
 | .func f,.c (.fn b [])=>f==fid b
 |_,_=>false
def GC:List Operand->cg->Bool
 | [],[]=>true
 |o::os,x::xs=>b6 fid o x&&GC os xs
 |_,_=>false
def Pw:Option Operand->nW->Bool
 |none,none=>true
 |some o,some x=>b6 fid o x
 |_,_=>false
def Ka(t:TypeId):uL:=(P.underlying t).map fun d=>match d with| .struct _| .array _ _=>true|_=>false
def kn(t:TypeId):bi:=(P.info? t).map (·.size)
def NB(t:TypeId):bi:=(P.info? t).map (·.bytes)
def OV(t:TypeId)(vs:aw):Bool:=
 match (P.info? t).bind (·.zero)with
 |some z=>Ho z.cells.toList vs
 |none=>false
def zeroV(t:TypeId)(v:DV):Bool:=
 match (P.info? t).bind (·.zero)with
 |some z=>K3 z v
 |none=>false
def t9(t:TypeId):Option TypeId:=
 match P.underlying t with
 |some (.slice e)=>some e
 |_=>none
def Vo:Operand->Bool
 | .const (.slice none 0 0)=>true
 |_=>false
def Jq(place:Nat->Option (Nat×Nat)):List (Nat×Operand)->nq->Bool
 | [],[]=>true
 |(i,o)::r,(off,size,x)::b=>place i==some (off,size)&&b6 fid o x&&Jq place r b
 |_,_=>false
def Lc:List (Nat×Operand)->mM->Bool
 | [],[]=>true
 |(i,o)::r,(c,x)::b=>i==c&&b6 fid o x&&Lc r b
 |_,_=>false
def fieldsOf(t:TypeId):Option (Array Field):=
 match P.underlying t with
 |some (.struct fs)=>some fs
 |_=>none
def arrayOf(t:TypeId):Option (Nat×TypeId):=
 match P.underlying t with
 |some (.array n e)=>some (n,e)
 |_=>none
def Hc(t:TypeId):Bool:=match P.underlying t with|some .string=>true|_=>false
def Mb(t:TypeId):Option IntKind:=match P.underlying t with|some (.int k)=>some k|_=>none
def isInt(t:TypeId):Bool:=match P.underlying t with|some (.int _)=>true|_=>false
def MW:Nat->List Field->ae->Bool
 |_,[],[]=>true
 |i,f::r,k::ks=>decide (f.offset=i)&&f.name != "_"&&
  (match P.underlying f.type with|some .bool=>decide (k=1)|some (.int _)=>decide (k=0)|some .string=>decide (k=2)|_=>false)&&MW (i+1) r ks
 |_,_,_=>false
def qUp(t:TypeId):Option (Nat->Option (Nat×Nat)):=
 match P.underlying t with
 |some (.array _ e)=>(P.info? e).map fun b=>fun i=>some (i*b.size,b.size)
 |some (.struct fs)=>(fs.toList.mapM fun f=>(P.info? f.type).map fun i=>(f.offset,i.size)).map fun pl=>(pl.toArray[·]?)
 |_=>none
def Z3:Op->VOp->Bool
 | .move x,.move y| .assign x,.move y=>b6 fid x y
 | .pick c a b,.pick c' a' b'=>b6 fid c c'&&b6 fid a a'&&b6 fid b b'
 | .alloc t,.alloc _ z=>OV P t z
 | .box _ x,.box _ y=>b6 fid x y
 | .build t ps,.build z j=>OV P t z&&(match qUp P t with|some pl=>Jq fid pl ps.toList j|none=>false)
 | .buildSlice t n ps,.buildSlice sz z H j=>decide (n=H)&&
  (match t9 P t with
   |some e=>decide (kn P e=some sz)&&zeroV P e z&&Lc fid ps.toList j
   |none=>false)
 | .load t a,.load agg sz x=>decide (Ka P t=some agg)&&decide (kn P t=some sz)&&b6 fid a x
 | .store t a v,.storeN sz x y _=>decide (kn P t=some sz)&&b6 fid a x&&b6 fid v y
 | .store t a v,.store _ sz x y=>decide (kn P t=some sz)&&b6 fid a x&&b6 fid v y
 | .nilCheck x,.nilCheck y=>b6 fid x y
 | .binOp op t x y _,.bin F x' q=>decide (op=F)&&b6 fid x x'&&b6 fid y q&&
  (match P.underlying t with|some (.int _)|some .string=>true|_=>false)
 | .binOp op t x y _,.eqB neg x' q=>decide (op=if neg then .neq else .eql)&&b6 fid x x'&&b6 fid y q&&(match P.underlying t with|some .bool=>true|_=>false)
 | .binOp op t x y _,.eqNil neg x'=>decide (op=if neg then .neq else .eql)&&b6 fid x x'&&Vo y&&(t9 P t).isSome
 | .binOp op t x y _,.eqAgg neg ks x' q=>decide (op=if neg then .neq else .eql)&&b6 fid x x'&&b6 fid y q&&
  (match P.underlying t with
   |some (.struct fs)=>MW P 0 fs.toList ks&& !P.stoodInHeld t&& !P.eqGuardType P.depth t
   |_=>false)
 | .unOp .not _ x,.not y=>b6 fid x y
 | .unOp .neg _ x,.bin op (.c (.d (.int _ n))) y=>decide (op= .sub)&&decide (n=0)&&b6 fid x y
 | .convert src dst x,.conv (.kind k) y=>b6 fid x y&&isInt P src&&decide (Mb P dst=some k)
 | .convert src dst x,.conv .rune y=>b6 fid x y&&isInt P src&&Hc P dst
 | .convert src dst x,.conv .bytes y=>b6 fid x y&&Hc P dst&&(match t9 P src with|some e=>decide (Mb P e=some .u8)|none=>false)
 | .index t x i,.index x' h=>Hc P t&&b6 fid x x'&&b6 fid i h
 | .indexAddr t x i,.indexAddr sz none x' h=>b6 fid x x'&&b6 fid i h&&(match t9 P t with|some e=>decide (kn P e=some sz)|none=>false)
 | .indexAddr t x i,.indexAddr sz (some m) x' h=>b6 fid x x'&&b6 fid i h&&(match arrayOf P t with|some (n,e)=>decide (n=m)&&decide (kn P e=some sz)|none=>false)
 | .fieldAddr t x f,.fieldAddr off x'=>b6 fid x x'&&
  (match fieldsOf P t with
   |some fs=>(match fs[f]? with|some f=>decide (f.offset=off)&&(match kn P f.type with|some s=>decide (s≠0)|none=>false)|none=>false)
   |none=>false)
 | .slice t x lo hi none,.slice str sz x' D G=>b6 fid x x'&&Pw fid lo D&&Pw fid hi G&&
  (match P.underlying t with
   |some .string=>str
   |some (.slice e)=> !str&&decide (kn P e=some sz)
   |_=>false)
 | .makeFunc (.func f) first caps,.makeFunc C o=>decide (first= #[])&&f==fid C&&GC fid caps.toList o
 | .makeSlice t l c,.makeSlice _ sz bytes z x=>b6 fid l x&&b6 fid c x&&
  (match t9 P t with
   |some e=>decide (kn P e=some sz)&&decide (NB P e=some bytes)&&zeroV P e z
   |none=>false)
 | .extract x i,.extract x' h=>b6 fid x x'&&decide (i=h)
 | .call {callee:= .value f,args,..},.call _ C p=>b6 fid f C&&GC fid args.toList p
 | .call {callee:= .builtin .append,args,argTypes},.append sz bytes x y=>
  (match args.toList,argTypes.toList with
   | [a,b],[t,I]=>b6 fid a x&&b6 fid b y&&decide (t=I)&&(match t9 P t with|some e=>decide (kn P e=some sz)&&decide (NB P e=some bytes)&&decide (0<sz)&&decide (0<bytes)&&((P.info? e).bind (·.zero)).any (fun z=>z.cells.size==sz)|none=>false)
   |_,_=>false)
 | .call {callee:= .builtin .len,args,argTypes},.len str x=>
  (match args.toList,argTypes.toList with
   | [a],[t]=>b6 fid a x&&(match P.underlying t with|some .string=>str|some (.slice _)=> !str|_=>false)
   |_,_=>false)
 | .call {callee:= .builtin .max,args,..},.max x y=>
  (match args.toList with
   | [a,b]=>b6 fid a x&&b6 fid b y
   |_=>false)
 |_,.fail=>true
 |_,_=>false
def Ub(ops:Array Oper):qs->qs->Bool
 |none,none=>true
 |some (j,w),some (t,w')=>w==w'&&((ops[j]?).bind (·.dst))==some t
 |_,_=>false
def Yt(N:Nat)(ops:Array Oper)(o:Oper)(b:VOper):Bool:=o.dst==b.dst&&(match o.dst with|some d=>decide (d<N)|none=>true)&&Z3 P fid o.op b.op&&Ub ops o.guard b.guard
def Jj(o:Oper):ae:=(o.after.toList.filter (Region.binds .any)).map (·.on)
def As(N:Nat)(ops:Array Oper)(draw:Bool):List Oper->ak->Bool
 | [],[]=>true
 |o::os,v::vs=>Yt P fid N ops o v&&(!draw||(Jj o).all fun j=>v.after.contains j)&&(!draw||v.after.all fun j=>(Jj o).contains j)&&As N ops draw os vs
 |_,_=>false
def qe(N:Nat):Code->VCode->Bool
 | .skip,.skip=>true
 | .ret,.ret=>true
 | .exit i,.exit j=>i==j
 | .seq a b,.seq a' b'=>qe N a a'&&qe N b b'
 | .region _ ops draw,.region e _ _ vs=>draw==e&&As P fid N ops draw ops.toList vs
 | .region _ ops draw,.regionF e _ _ fs=>draw==e&&As P fid N ops draw ops.toList (iw fs)
 | .region _ ops false,.regionS _ live pre t t1 i x d f1 f2=>As P fid N ops false ops.toList (pre++SS t1 i x d f1 f2)&&x.isnt d&&d !=t&& !live.contains d
 | .cond x a b,.cond x' a' b'=>b6 fid x x'&&qe N a a'&&qe N b b'
 | .block i c,.block j c'=>i==j&&qe N c c'
 | .loop c,.loop _ c'=>qe N c c'
 |_,_=>false
def HF:List ResultVar->jt->Bool
 | [],[]=>true
 | .tmp t::r,.tmp c::b=>t==c&&HF r b
 | .cell t ty::r,.cell c agg sz::b=>t==c&&decide (Ka P ty=some agg)&&decide (kn P ty=some sz)&&HF r b
 |_,_=>false
def Ir(fn:Func)(vf:VFn):Bool:=(match fn.body with|some c=>qe P fid fn.ntmps c vf.code|none=>false)&&HF P fn.results.toList vf.results&&decide (vf.np<=fn.ntmps)&& !(fn.name== "runtime.NumGoroutine")
end
section
variable {P:Program} {fid:Nat->FuncId} {g:Gh} {w:World}
theorem FX{v:DV}(h:AVR fid g w (.d v) u):VR g w v u:=by cases h with|d _ _ h=>exact h
theorem GF{k:IntKind}{n:Int}(h:AVR fid g w (.d (.int k n)) u):u= .int k n:=by cases FX h;rfl
theorem ZK{b:Bool}(h:AVR fid g w (au b) u):u= .bool b:=by cases FX h;rfl
theorem JI{v:DV}(h:VR g w v u)(hc:v.isCell=true):u.oneCell'=true/\u.cells= #[u]/\v.cells=[v]:=by cases h<;>simp_all[DV.isCell,Value.oneCell',Value.cells,DV.cells]
theorem U1{v:DV}(h:VR g w v u)(hc:∀c,c∈v.cells->c.isCell=true):
 u.cells.size=v.cells.length/\(∀(j:Nat) (c:DV) (x:Value),v.cells[j]?=some c->u.cells[j]?=some x->VR g w c x)/\(∀x,x∈u.cells.toList->x.oneCell'=true):=by
 cases h with
 |agg cs us C d p=>
  refine⟨C,p,fun x hx=> ?_⟩;obtain⟨j,y⟩:=jC.1 hx;simp[Value.cells]at y;have D:j<us.size:=(oV.1 y).1;have z:j<cs.length:=by omega
  exact(JI (p j cs[j] x (by simp) y) (d _ (by simp))).1
 |tup cs us C p=>exact absurd (hc (.tup cs) (by simp[DV.cells])) (by simp[DV.isCell])
 |int k n=>exact⟨rfl,fun j c x e l=>by cases j<;>simp[DV.cells,Value.cells]at e l;subst e;subst l;exact .int _ _,by simp[Value.cells,Value.oneCell']⟩
 |bool b=>exact⟨rfl,fun j c x e l=>by cases j<;>simp[DV.cells,Value.cells]at e l;subst e;subst l;exact .bool _,by simp[Value.cells,Value.oneCell']⟩
 |str s=>exact⟨rfl,fun j c x e l=>by cases j<;>simp[DV.cells,Value.cells]at e l;subst e;subst l;exact .str _,by simp[Value.cells,Value.oneCell']⟩
 |nil=>exact⟨rfl,fun j c x e l=>by cases j<;>simp[DV.cells,Value.cells]at e l;subst e;subst l;exact .nil,by simp[Value.cells,Value.oneCell']⟩
 |row t xs ad c s U G z H d F q p o=>exact⟨rfl,fun j c x e l=>by cases j<;>simp[DV.cells,Value.cells]at e l;subst e;subst l;exact .row t xs ad _ s U G z H d F q p o,by simp[Value.cells,Value.oneCell']⟩
end
section
variable {P:Program} {fid:Nat->FuncId} {g:Gh} {w:World}
section
variable {a:Act} {r:aI} (hr:qPr fid g w r a.tmps)
include hr
end
end
section
variable {P:Program} {fid:Nat->FuncId} {g:Gh} {w:World}
section
variable {a:Act} {r:aI} (hr:qPr fid g w r a.tmps)
include hr
end
end
section
variable {P:Program} {fid:Nat->FuncId} {g:Gh} {w:World}
theorem Pl(off:Nat):∀(vs:cX) (k:Nat) (arr:ee),off+k+vs.length<=arr.size->
 ((vs.zipIdx k).foldl (fun cs x=>cs.setIfInBounds (off+x.2) x.1) arr).size=arr.size/\
 ∀j,((vs.zipIdx k).foldl (fun cs x=>cs.setIfInBounds (off+x.2) x.1) arr)[j]?=if off+k<=j/\j<off+k+vs.length then vs[j-(off+k)]? else arr[j]?
 | [],k,arr,h=>⟨rfl,fun j=>by simp;intro b c;omega⟩
 |v::vs,k,arr,h=>by
  simp only[List.zipIdx_cons,jv];obtain⟨b,c⟩:=Pl off vs (k+1) (arr.setIfInBounds (off+k) v) (by simp at h⊢;omega);refine⟨by rw[b];simp,fun j=> ?_⟩;rw[c];simp only[c7]at h
  by_cases d:j=off+k
  ·subst d
   rw[aC (by omega),ay (by simp only[c7];omega)];simp;rw[Array.getElem?_setIfInBounds_self_of_lt (by omega)]
  ·by_cases hr:off+(k+1)<=j/\j<off+(k+1)+vs.length
   ·rw[ay hr,ay (by simp;omega)]
    obtain⟨m,rfl⟩:∃m,j=off+(k+1)+m:=⟨j-(off+(k+1)),by omega⟩;have e:off+(k+1)+m-(off+(k+1))=m:=by omega
    have l:off+(k+1)+m-(off+k)=m+1:=by omega
    rw[e,l];rfl
   ·rw[aC hr,aC (by simp;omega)]
    rw[yab (by omega)]
theorem Nc(cs:List α)(off:Nat)(new:List α)(h:off+new.length<=cs.length)(j:Nat):
 (splice cs off new)[j]?=if off<=j/\j<off+new.length then new[j-off]? else cs[j]?:=by
 unfold splice;have d:(cs.take off).length=off:=by simp;omega
 by_cases b:j<off
 ·rw[aC (by omega),bX,d8 (by omega),pX,ay b]
 ·by_cases c:j<off+new.length
  ·rw[ay ⟨by omega,c⟩,bX,dx (by omega),d8 (by omega),d]
  ·rw[aC (by omega),dx (by simp;omega),DD]
   congr 1
   simp;omega
theorem QO(cs:List α)(off:Nat)(new:List α)(h:off+new.length<=cs.length):(splice cs off new).length=cs.length:=by simp[splice];omega
def qxZ(g:Gh)(w:World)(cs:aw)(arr:ee):Prop:=arr.size=cs.length/\(∀v,v∈cs->v.isCell=true)/\∀(j:Nat) (v:DV) (u:Value),cs[j]?=some v->arr[j]?=some u->VR g w v u
theorem qxZ.put{cs:aw}{arr:ee}(h:qxZ g w cs arr){v:DV}(t:VR g w v u)(hc:v.cells.all DV.isCell=true){off:Nat}(b:off+v.cells.length<=cs.length):
 qxZ g w (splice cs off v.cells) (u.cells.zipIdx.foldl (fun cs (c,j)=>cs.setIfInBounds (off+j) c) arr)/\u.cells.size=v.cells.length:=by
 have e:∀c,c∈v.cells->c.isCell=true:=fun c s=>(cm.1 hc) c s
 obtain⟨l,o,z⟩:=U1 t e;have d:(u.cells.zipIdx.foldl (fun cs (c,j)=>cs.setIfInBounds (off+j) c) arr)=(u.cells.toList.zipIdx 0).foldl (fun cs x=>cs.setIfInBounds (off+x.2) x.1) arr:=by rw[<-Array.foldl_toList,Array.toList_zipIdx]
 rw[d];obtain⟨p,q⟩:=Pl off u.cells.toList 0 arr (by simp;have:=h.1;omega);refine⟨⟨by rw[p,QO _ _ _ b];exact h.1,fun x hx=> ?_,fun j x y hx hy=> ?_⟩,l⟩
 ·obtain⟨j,k⟩:=jC.1 hx
  rw[Nc _ _ _ b]at k;split at k
  ·exact e x (pm k)
  ·exact h.2.1 x (pm k)
 ·rw[Nc _ _ _ b]at hx
  rw[q]at hy;simp at hy
  by_cases hc:off<=j/\j<off+v.cells.length
  ·rw[ay hc]at hx
   rw[ay (by omega)]at hy;exact o _ _ _ hx hy
  ·rw[aC hc]at hx
   rw[aC (by omega)]at hy;exact h.2.2 _ _ _ hx hy
section
variable {a:Act} {r:aI} (hr:qPr fid g w r a.tmps)
include hr
end
end
variable {P:Program} {fid:Nat->FuncId} {g:Gh} {w:World}
section
variable {a:Act} {r:aI} (hr:qPr fid g w r a.tmps)
include hr
end
end Go.Proofs.YtpcoohnjllclnaaGreat.VS
