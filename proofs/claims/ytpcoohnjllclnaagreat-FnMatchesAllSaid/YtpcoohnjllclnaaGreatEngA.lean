/- The engine, part 1: a call of the program answers what an evaluator of values without memory answers, for the functions whose code is the one that the evaluator is given. -/
import GoSem.Core.View
import GoSem.Op.String
import GoSem.Core.Utf8
import GoSem.Core.Code
import Derived.Calls
import Derived.Control
import GoSem.ClaimData
import Derived.Orders
import Derived.Laws.Sem
import Derived.Laws.Cells
import Derived.Laws.World
import Derived.Laws.Entries
import Derived.Laws.CopyRow
import Derived.Laws.Rows
import Derived.Laws.Tables
import Derived.Laws.StructEq
set_option linter.unusedSimpArgs false
set_option linter.unusedVariables false
namespace Go.Proofs.YtpcoohnjllclnaaGreat.VS
theorem ax{p:Prop}(h:p):p:=h
theorem aL{α:Type _}{p:α->Prop}{a:α}{l:List α}(h:p a)(t:∀x,x∈l->p x):∀x,x∈a::l->p x:=List.forall_mem_cons.2 ⟨h,t⟩
abbrev rZ:=@List.set_eq_take_append_cons_drop
abbrev jq:=@Array.getElem?_setIfInBounds_ne
abbrev mc:=@List.eq_nil_of_length_eq_zero
abbrev Gr:=@List.getLast?_eq_some_getLast
abbrev Js:=@List.take_append_of_le_length
abbrev qP:=@List.dropLast_concat_getLast
abbrev Kq:=@Array.getElem?_append_right
abbrev ju:=@Array.getElem?_append_left
abbrev dD:=@Array.getElem?_eq_some_iff
abbrev FW:=@Int.fdiv_eq_ediv_of_nonneg
abbrev FP:=@List.perm_ext_iff_of_nodup
abbrev kg:=@Array.getElem?_eq_getElem
abbrev cW:=@List.drop_eq_getElem_cons
abbrev md:=@List.exists_mem_of_ne_nil
abbrev xy:=@List.getElem?_eq_none_iff
abbrev aK:=@List.getElem?_eq_some_iff
abbrev qh:=@List.mem_or_eq_of_mem_set
abbrev gi:=@List.sublist_append_right
abbrev Iq:=@Option.isNone_iff_eq_none
abbrev Cw:=@Array.getElem?_push_size
abbrev Ct:=@List.Perm.eq_of_pairwise
abbrev uc:=@List.eq_of_mem_replicate
abbrev eh:=@List.getElem?_eq_getElem
abbrev n_:=@List.sublist_append_left
abbrev mt:=@Option.isSome_iff_exists
abbrev lH:=@List.getElem?_cons_succ
abbrev d9:=@List.getElem?_cons_zero
abbrev DW:=@List.getElem?_replicate
abbrev gR:=@List.getElem?_set_self'
abbrev kp:=@List.length_eq_zero_iff
abbrev qc:=@List.pairwise_singleton
abbrev j9:=@decide_eq_false_iff_not
abbrev BL:=@Array.getElem?_eq_none
abbrev Bf:=@Array.getElem?_push_lt
abbrev uZ:=@List.append_eq_nil_iff
abbrev kw:=@List.drop_eq_nil_of_le
abbrev mY:=@List.drop_of_length_le
abbrev Zb:=@List.findIdx_eq_length
abbrev BR:=@List.findIdx_le_length
abbrev hI:=@List.getElem?_set_self
abbrev oT:=@List.length_eq_one_iff
abbrev GQ:=@List.not_of_lt_findIdx
abbrev K_:=@List.singleton_sublist
abbrev Jn:=@List.sublist_cons_self
abbrev eU:=@List.take_of_length_le
abbrev Ca:=@Nat.testBit_lt_two_pow
abbrev Fs:=@Option.map_eq_none_iff
abbrev Sq:=@Array.getElem?_modify
abbrev yaW:=@Array.getElem?_toList
abbrev AB:=@Array.mem_iff_getElem
abbrev J6:=@List.Perm.append_left
abbrev ut:=@List.contains_iff_mem
abbrev f8:=@List.getElem?_eq_none
abbrev nJ:=@List.getElem?_toArray
abbrev Cv:=@List.length_replicate
abbrev mF:=@List.mem_append_right
abbrev c9:=@List.mem_iff_getElem?
abbrev kS:=@List.perm_append_comm
abbrev mJ:=@List.set_append_right
abbrev Ag:=@List.singleton_append
abbrev gP:=@List.sizeOf_lt_of_mem
abbrev du:=@List.take_append_drop
abbrev uC:=@Array.mem_toList_iff
abbrev iR:=@Bool.or_eq_false_iff
abbrev dh:=@List.getElem?_set_ne
abbrev kj:=@List.mem_append_left
abbrev dH:=@List.mem_cons_of_mem
abbrev bU:=@List.mem_of_getElem?
abbrev pR:=@List.mem_of_mem_drop
abbrev qk:=@List.mem_of_mem_take
abbrev iE:=@List.pairwise_append
abbrev Ei:=@Nat.div_lt_of_lt_mul
abbrev fb:=@Nat.mul_le_mul_right
abbrev tw:=@Nat.pow_le_pow_right
abbrev Ia:=@Array.length_toList
abbrev gw:=@List.Sublist.append
abbrev to:=@List.forall_mem_nil
abbrev jl:=@List.getElem_of_mem
abbrev v_:=@List.length_pos_iff
abbrev rJ:=@List.map_congr_left
abbrev Cc:=@List.replicate_succ
abbrev sb:=@List.take_succ_cons
abbrev Cm:=@beq_eq_false_iff_ne
abbrev A3:=@Array.append_assoc
abbrev bI:=@Bool.false_eq_true
abbrev ov:=@Int.cast_ofNat_Int
abbrev yD:=@List.Perm.cons_inv
abbrev gk:=@List.getElem?_drop
abbrev ew:=@List.getElem?_take
abbrev ed:=@List.mem_cons_self
abbrev bC:=@List.mem_singleton
abbrev gC:=@List.pairwise_cons
abbrev kq:=@List.set_cons_zero
abbrev D8:=@Nat.eq_or_lt_of_le
abbrev kf:=@Nat.eq_zero_or_pos
abbrev mI:=@Nat.lt_of_lt_of_le
abbrev pB:=@Array.all_eq_true
abbrev mm:=@Array.size_append
abbrev Ah:=@Bool.not_eq_false
abbrev fi:=@Bool.not_eq_true'
abbrev kD:=@Function.comp_def
abbrev xM:=@Int.toNat_natCast
abbrev mr:=@List.Pairwise.nil
abbrev bX:=@List.Sublist.refl
abbrev iO:=@List.ext_getElem?
abbrev ei:=@List.flatMap_cons
abbrev jh:=@List.flatten_cons
abbrev cH:=@List.getElem?_map
abbrev iV:=@List.isEmpty_cons
abbrev Ci:=@List.length_range
abbrev co:=@List.nodup_append
abbrev ir:=@List.size_toArray
abbrev Bz:=@List.take_add_one
abbrev aB:=@Option.some.injEq
abbrev ba:=@decide_eq_true_eq
abbrev iN:=@not_false_eq_true
abbrev mA:=@not_true_eq_false
abbrev aF:=@Bool.and_eq_true
abbrev pA:=@Int.natCast_zero
abbrev bu:=@List.all_eq_true
abbrev Ea:=@List.any_eq_true
abbrev pz:=@List.append_inj'
abbrev cP:=@List.cons_append
abbrev pL:=@List.drop_append
abbrev C3:=@List.drop_length
abbrev Jx:=@List.ext_getElem
abbrev sn:=@List.flatMap_map
abbrev xf:=@List.getElem_map
abbrev il:=@List.getElem_mem
abbrev cB:=@List.length_cons
abbrev Pu:=@List.length_drop
abbrev sk:=@List.length_take
abbrev qv:=@List.mem_flatMap
abbrev jG:=@List.nil_sublist
abbrev kU:=@List.not_mem_nil
abbrev mD:=@List.perm_middle
abbrev AC:=@List.range'_succ
abbrev od:=@List.sublist_nil
abbrev fR:=@List.take_length
abbrev AL:=@Nat.le_add_right
abbrev hO:=@Nat.le_max_right
abbrev j5:=@Nat.lt_succ_self
abbrev y7:=@Nat.mod_eq_of_lt
abbrev aQ:=@Option.bind_some
abbrev eE:=@Option.getD_some
abbrev wj:=@Bool.eq_iff_iff
abbrev ci:=@Bool.or_eq_true
abbrev mN:=@Int.natCast_add
abbrev DY:=@List.all_append
abbrev dq:=@List.append_nil
abbrev rX:=@List.foldl_cons
abbrev dK:=@List.length_map
abbrev h_:=@List.length_nil
abbrev kr:=@List.length_set
abbrev ea:=@List.map_append
abbrev bl:=@List.mem_append
abbrev gK:=@List.mem_filter
abbrev dj:=@List.nil_append
abbrev iZ:=@List.nodup_cons
abbrev ED:=@List.take_left'
abbrev CN:=@Nat.div_add_mod
abbrev iJ:=@Nat.le_max_left
abbrev tK:=@Nat.min_eq_left
abbrev y8:=@Nat.not_lt_zero
abbrev D9:=@Option.map_none
abbrev bz:=@Option.map_some
abbrev sE:=@Option.some.inj
abbrev xK:=@beq_false_of_ne
abbrev nz:=@Bool.not_false
abbrev iU:=@List.Perm.refl
abbrev kJ:=@List.drop_drop
abbrev fE:=@List.drop_zero
abbrev eW:=@List.mem_range
abbrev rI:=@List.take_zero
abbrev A_:=@Option.map_map
abbrev uS:=@Bool.and_self
abbrev mp:=@Bool.and_true
abbrev qp:=@Bool.false_or
abbrev mb:=@Bool.not_true
abbrev oN:=@Bool.or_false
abbrev eP:=@Bool.true_and
abbrev qX:=@Int.add_assoc
abbrev fM:=@List.all_cons
abbrev bo:=@List.map_cons
abbrev br:=@List.mem_cons
abbrev DI:=@List.set_comm
abbrev BU:=@Nat.add_assoc
abbrev di:=@Prod.mk.injEq
abbrev v8:=@Sum.inl.injEq
abbrev eN:=@List.map_map
abbrev cv:=@List.map_nil
abbrev bP:=@List.mem_map
abbrev oM:=@Nat.add_zero
abbrev xA:=@Nat.le_of_lt
abbrev cN:=@Nat.le_trans
abbrev dZ:=@Nat.lt_or_ge
abbrev kN:=@Nat.mul_comm
abbrev vM:=@Nat.pow_succ
abbrev mq:=@Nat.sub_self
abbrev kb:=@Nat.sub_zero
abbrev eQ:=@Nat.zero_add
abbrev qd:=@Nat.zero_mul
abbrev c_:=@Nat.add_mul
abbrev aU:=@Nat.le_refl
abbrev bT:=@Nat.le_succ
abbrev ydt:=@Nat.min_def
abbrev cE:=@Nat.zero_le
abbrev eJ:=@beq_iff_eq
abbrev li:=@congrArg
abbrev lT:=@or_false
abbrev jP:=@true_and
abbrev ak:=@if_neg
abbrev ap:=@if_pos
abbrev eD:=@ne_eq
theorem au{α β:Type _}{b:β}{x:Option α}{f:α->β}:Option.map f x=some b↔∃a,x=some a/\f a=b:=Option.map_eq_some_iff
theorem aw{α β:Type _}{b:β}{x:Option α}{f:α->Option β}:x.bind f=some b↔∃a,x=some a/\f a=some b:=Option.bind_eq_some_iff
theorem yc_{α:Type _}{p:α->Prop}{a:α}{l:List α}:(∀x,x∈a::l->p x)↔p a/\∀x,x∈l->p x:=List.forall_mem_cons
theorem cj{α:Type _}{l₁ l₂:List α}{i:Nat}(h:l₁.length<=i):(l₁++l₂)[i]?=l₂[i-l₁.length]?:=List.getElem?_append_right h
theorem bY{α:Type _}{l₁ l₂:List α}{i:Nat}(h:i<l₁.length):(l₁++l₂)[i]?=l₁[i]?:=List.getElem?_append_left h
theorem bL{α:Type _}{xs:Array α}{i:Nat}{d:α}:xs.getD i d=xs[i]?.getD d:=Array.getD_eq_getD_getElem?
theorem dz{α:Type _}{as bs:List α}:(as++bs).length=as.length+bs.length:=List.length_append
theorem b7{α:Type _}(as bs cs:List α):as++bs++cs=as++(bs++cs):=List.append_assoc as bs cs
abbrev Id:=List Nat
abbrev Ids:=Id->Bool
def Ids.none:Ids:=fun _=>false
def Ids.add(a:Id)(A:Ids):Ids:=fun x=>decide (x=a)||A x
def Ids.del(a:Id)(A:Ids):Ids:=fun x=> !decide (x=a)&&A x
def Ids.or(A A':Ids):Ids:=fun x=>A x||A' x
inductive Tag where
 |nil
 |sub
 |own (a:Id) (sz:Nat)
 deriving Inhabited,DecidableEq
inductive DV where
 |int (k:IntKind) (n:Int)
 |bool (b:Bool)
 |str (s:ByteArray)
 |agg (cs:List DV)
 |sl (g:Tag) (xs:List DV)
 |tup (vs:List DV)
 deriving Inhabited
inductive AV where
 |d (v:DV)
 |ptr (i off:Nat)
 |ep (cs:List DV)
 |nilp
 |fn (f:Nat) (cap:List AV)
 |bsl (id:Id) (agg:Bool) (i sz n:Nat)
 |tsl (agg:Bool) (i sz n:Nat)
 |ag (tup:Bool) (cs:List AV)
 |und
 deriving Inhabited
@[simp] abbrev aa(i:Int):AV:=.d (.int .i64 i)
@[simp] abbrev ar(b:Bool):AV:=.d (.bool b)
def DV.cells:DV->List DV
 | .agg cs=>cs
 |v=>[v]
def DV.isCell:DV->Bool
 | .agg _=>false
 | .tup _=>false
 |_=>true
def AV.cells:AV->List AV
 | .d (.agg cs)=>cs.map .d
 | .ag false cs=>cs
 |v=>[v]
def AV.isCell:AV->Bool
 | .d v=>v.isCell
 | .und=>false
 | .ag _ _=>false
 |_=>true
def AV.data:AV->Option DV
 | .d v=>some v
 |_=>none
def aM:List AV->Option (List DV)
 | []=>some []
 | .d v::r=>(aM r).map (v::·)
 |_=>none
abbrev ah:=List (Option (List AV))
def aI(B:ah)(i:Nat):Option (List AV):=
 match B[i]? with
 |some (some cs)=>some cs
 |_=>none
def ct(B:ah)(i:Nat):Bool:=
 match B[i]? with
 |some none=>true
 |_=>false
def AV.safe(m:Nat):AV->Bool
 | .d _| .ep _| .nilp| .und=>true
 | .ptr i _=>i<m
 | .fn _ cap=>safes cap
 | .bsl _ _ i _ _=>i<m
 | .tsl _ i _ _=>i<m
 | .ag _ cs=>safes cs
where safes:List AV->Bool
 | []=>true
 |a::r=>a.safe m&&safes r
inductive VX where
 |t (n:Nat)
 |c (v:AV)
inductive Conv where
 |kind (k:IntKind)
 |bytes
 |rune
inductive VOp where
 |move (x:VX)
 |pick (c a b:VX)
 |alloc (slot:Nat) (zero:List DV)
 |box (slot:Nat) (x:VX)
 |build (zero:List DV) (parts:List (Nat×Nat×VX))
 |buildSlice (sz:Nat) (zero:DV) (len:Nat) (parts:List (Nat×VX))
 |load (agg:Bool) (sz:Nat) (a:VX)
 |store (init:Bool) (sz:Nat) (a x:VX)
 |storeN (sz:Nat) (a x:VX) (av:List Nat)
 |nilCheck (x:VX)
 |bin (op:BinOp) (x y:VX)
 |eqAgg (neg:Bool) (ks:List Nat) (x y:VX)
 |eqB (neg:Bool) (x y:VX)
 |eqNil (neg:Bool) (x:VX)
 |not (x:VX)
 |conv (c:Conv) (x:VX)
 |index (x i:VX)
 |indexAddr (sz:Nat) (arr:Option Nat) (x i:VX)
 |fieldAddr (off:Nat) (x:VX)
 |slice (str:Bool) (sz:Nat) (x:VX) (lo hi:Option VX)
 |makeFunc (f:Nat) (caps:List VX)
 |makeSlice (slot:Nat) (sz bytes:Nat) (zero:DV) (x:VX)
 |extract (x:VX) (i:Nat)
 |call (iso:Bool) (f:VX) (args:List VX)
 |callS (c:Nat) (f:VX) (args:List VX)
 |loadS (agg:Bool) (sz:Nat) (a:VX) (c:Nat)
 |append1 (sz bytes:Nat) (x y i v:VX) (t9:Nat)
 |append (sz bytes:Nat) (x y:VX)
 |len (str:Bool) (x:VX)
 |fail
structure VOper where
 dst:Option Nat
 op:VOp
 guard:Option (Nat×Bool):=none
 after:List Nat:=[]
inductive Gho where
 |focR (t:Nat) (live:List Nat)
 |focC (t off:Nat) (live:List Nat)
 |frzR (t L:Nat) (live:List Nat)
 |frzB (t L:Nat) (live:List Nat)
inductive FOper where
 |one (o:VOper)
 |sl (d1 a d2:Nat) (b:VX) (d3 sz:Nat) (lo hi:Option VX) (f1 f2 f3:List Nat)
 |el (d1 q d2:Nat) (b:VX) (d3 sz d4:Nat) (f1 f2 f3 f4:List Nat)
def FOper.pre:FOper->List VOper
 | .one o=>[o]
 | .sl d1 a d2 b _ _ _ _ f1 f2 _=>[⟨some d1,.move (.t a),none,f1⟩,⟨some d2,.move b,none,f2⟩]
 | .el d1 q d2 b d3 sz _ f1 f2 f3 _=>[⟨some d1,.load false 1 (.t q),none,f1⟩,⟨some d2,.move b,none,f2⟩,⟨some d3,.indexAddr sz none (.t d1) (.t d2),none,f3⟩]
def FOper.post:FOper->List VOper
 | .one _=>[]
 | .sl d1 _ _ _ d3 sz lo hi _ _ f3=>[⟨some d3,.slice false sz (.t d1) lo hi,none,f3⟩]
 | .el _ _ _ _ d3 sz d4 _ _ _ f4=>[⟨some d4,.load true sz (.t d3),none,f4⟩]
def gn:List FOper->List VOper
 | []=>[]
 |f::fs=>f.pre++(f.post++gn fs)
inductive VCode where
 |skip
 |ret
 |exit (id:Nat)
 |seq (a b:VCode)
 |region (draw:Bool) (na:Nat) (live:List Nat) (ops:List VOper)
 |cond (x:VX) (a b:VCode)
 |block (id:Nat) (c:VCode)
 |loop (live:List Nat) (c:VCode)
 |ghost (x:Gho) (c:VCode)
 |regionT (na:Nat) (live:List Nat) (pre tl:List VOper)
 |regionF (draw:Bool) (na:Nat) (live:List Nat) (fs:List FOper)
inductive VRes where
 |tmp (t:Nat)
 |cell (t:Nat) (agg:Bool) (sz:Nat)
structure VFn where
 np:Nat
 results:List VRes
 code:VCode
structure St where
 r:List (Nat×AV)
 B:ah
 A:Ids
 c:Nat
inductive Ex where
 |normal
 |exit (id:Nat)
 |ret
 deriving DecidableEq
structure Res where
 v:AV
 A:Ids
 B:ah
abbrev aZ:=Id->Nat->List AV->ah->Ids->Option Res
def lk:List (Nat×AV)->Nat->Option AV
 | [],_=>none
 |(t,v)::r,n=>if n=t then some v else lk r n
def VX.get(r:List (Nat×AV)):VX->Option AV
 | .t n=>lk r n
 | .c v=>some v
def cmp(op:BinOp)(x y:Int):Option Bool:=
 match op with
 | .eql=>some (x==y)
 | .neq=>some (x !=y)
 | .lss=>some (decide (x<y))
 | .leq=>some (decide (x<=y))
 | .gtr=>some (decide (x>y))
 | .geq=>some (decide (x>=y))
 |_=>none
def bits(op:BinOp)(k:IntKind)(x y:Int):Option Int:=
 let a:=BitVec.ofInt k.bits x
 let b:=BitVec.ofInt k.bits y
 match op with
 | .and=>some (k.wrap (a&&&b).toNat)
 | .or=>some (k.wrap (a|||b).toNat)
 | .xor=>some (k.wrap (a^^^b).toNat)
 | .andNot=>some (k.wrap (a&&& ~~~b).toNat)
 |_=>none
def cR(op:BinOp)(k:IntKind)(x y:Int):Option DV:=
 match op with
 | .add=>some (.int k (k.wrap (x+y)))
 | .sub=>some (.int k (k.wrap (x-y)))
 | .mul=>some (.int k (k.wrap (x*y)))
 | .quo=>if y=0 then none else some (.int k (k.wrap (x.tdiv y)))
 | .rem=>if y=0 then none else some (.int k (x.tmod y))
 | .shl=>if y<0 then none else some (.int k (k.wrap (x*2^(min y.toNat k.bits))))
 | .shr=>if y<0 then none else some (.int k (x.fdiv (2^(min y.toNat k.bits))))
 | .and| .or| .xor| .andNot=>(bits op k x y).map (.int k)
 |_=>(cmp op x y).map .bool
def fC(a b:ByteArray):Bool:=a.toList==b.toList
def eR(op:BinOp)(a b:DV):Option DV:=
 match a,b with
 | .int k x,.int k' y=>
  match op with
  | .shl=>cR .shl k x y
  | .shr=>cR .shr k x y
  |_=>if k=k' then cR op k x y else none
 | .str a,.str b=>
  match op with
  | .add=>if a.size+b.size<=4611686018427387904 then some (.str (a++b))else none
  | .eql=>some (.bool (fC a b))
  | .neq=>some (.bool !(fC a b))
  |_=>none
 |_,_=>none
def dR:List Nat->List DV->List DV->Option Bool
 | [],[],[]=>some true
 |0::ks,.int k x::r,.int k' y::b=>if k=k' then(if x==y then dR ks r b else(dR ks r b).map fun _=>false)else none
 |1::ks,.bool x::r,.bool y::b=>if x==y then dR ks r b else(dR ks r b).map fun _=>false
 |2::ks,.str x::r,.str y::b=>if fC x y then dR ks r b else(dR ks r b).map fun _=>false
 |_,_,_=>none
def splice{α:Type}(cs:List α)(off:Nat)(new:List α):List α:=cs.take off++new++cs.drop (off+new.length)
def dS(g:VX->Option AV)(cs:List DV):List (Nat×Nat×VX)->Option (List DV)
 | []=>some cs
 |(off,size,x)::r=>
  match g x with
  |some (.d v)=>if v.cells.length=size/\off+size<=cs.length/\v.cells.all DV.isCell then dS g (splice cs off v.cells) r else none
  |_=>none
def cF(g:VX->Option AV)(sz:Nat)(xs:List DV):List (Nat×VX)->Option (List DV)
 | []=>some xs
 |(i,x)::r=>
  match g x with
  |some (.d v)=>if v.cells.length=sz/\i<xs.length/\v.cells.all DV.isCell then cF g sz (xs.set i v) r else none
  |_=>none
def mL(s:ByteArray)(i:Nat):Option Int:=(s[i]?).map fun b=>(b.toNat:Int)
def bytesOf:List DV->Option (List UInt8)
 | []=>some []
 | .int .u8 n::r=>(bytesOf r).map (UInt8.ofNat n.toNat::·)
 |_=>none
def cO(r:List (Nat×AV)):List VX->Option (List AV)
 | []=>some []
 |x::xs=>(x.get r).bind fun v=>(cO r xs).map (v::·)
def cut(agg:Bool)(sz:Nat)(cs:List DV):Option DV:=
 if agg then(if sz<=cs.length then some (.agg (cs.take sz))else none)else cs[0]?
def jw(v:AV):Option Int:=
 match v with
 | .d (.int _ n)=>some n
 |_=>none
def en(len:Nat)(hi:Option AV):Option Nat:=
 match hi with
 |none=>some len
 |some v=>(jw v).bind fun h=>if 0<=h/\h.toNat<=len then some h.toNat else none
def em(h:Nat)(lo:Option AV):Option Nat:=
 match lo with
 |none=>some 0
 |some v=>(jw v).bind fun l=>if 0<=l/\l.toNat<=h then some l.toNat else none
def cT(r:List (Nat×AV)):Option VX->Option (Option AV)
 |none=>some none
 |some x=>(x.get r).map some
def aA(r:List (Nat×AV)):VOp->Option AV
 | .move x=>x.get r
 | .pick c a b=>
  match c.get r with
  |some (.d (.bool true))=>a.get r
  |some (.d (.bool false))=>b.get r
  |_=>none
 | .build zero parts=>(dS (VX.get r) zero parts).map fun cs=> .d (.agg cs)
 | .nilCheck x=>
  match x.get r with
  |some (.ptr i o)=>some (.ptr i o)
  |some (.ep cs)=>some (.ep cs)
  |some (.fn f c)=>some (.fn f c)
  |_=>none
 | .bin op x y=>
  match x.get r,y.get r with
  |some (.d a),some (.d b)=>(eR op a b).map .d
  |_,_=>none
 | .eqAgg neg ks x y=>
  match x.get r,y.get r with
  |some (.d (.agg a)),some (.d (.agg b))=>(dR ks a b).map fun e=> ar (if neg then !e else e)
  |_,_=>none
 | .eqB neg x y=>
  match x.get r,y.get r with
  |some (.d (.bool a)),some (.d (.bool b))=>some (ar (if neg then !(a==b)else(a==b)))
  |_,_=>none
 | .eqNil neg x=>
  match x.get r with
  |some (.d (.sl g _))=>some (ar (if neg then !(g== .nil)else(g== .nil)))
  |_=>none
 | .not x=>
  match x.get r with
  |some (.d (.bool b))=>some (.d (.bool !b))
  |_=>none
 | .conv (.kind k) x=>
  match x.get r with
  |some (.d (.int _ n))=>some (.d (.int k (k.wrap n)))
  |_=>none
 | .conv .rune x=>
  match x.get r with
  |some (.d (.int _ n))=>some (.d (.str (Utf8.encode n)))
  |_=>none
 | .conv .bytes x=>
  match x.get r with
  |some (.d (.sl _ xs))=>(bytesOf xs).map fun bs=> .d (.str ⟨bs.toArray⟩)
  |_=>none
 | .index x i=>
  match x.get r,i.get r with
  |some (.d (.str s)),some (.d (.int _ n))=>if 0<=n then(mL s n.toNat).map fun b=> .d (.int .u8 b)else none
  |_,_=>none
 | .indexAddr sz none x i=>
  match x.get r,i.get r with
  |some (.d (.sl _ xs)),some (.d (.int _ n))=>
   if 0<=n then(xs[n.toNat]?).bind fun e=>if e.cells.length=sz/\sz≠0 then some (.ep e.cells)else none else none
  |some (.bsl _ _ b j m),some (.d (.int _ n))=>
   if j=sz/\0<=n/\n<m then some (.ptr b (n.toNat*sz))else none
  |some (.tsl _ b j m),some (.d (.int _ n))=>
   if j=sz/\0<=n/\n<m then some (.ptr b (n.toNat*sz))else none
  |_,_=>none
 | .indexAddr sz (some m) x i=>
  match x.get r,i.get r with
  |some (.ptr b o),some (.d (.int _ n))=>if 0<=n/\n<m then some (.ptr b (o+n.toNat*sz))else none
  |some (.ep cs),some (.d (.int _ n))=>if 0<=n/\n<m/\n.toNat*sz<=cs.length then some (.ep (cs.drop (n.toNat*sz)))else none
  |_,_=>none
 | .fieldAddr off x=>
  match x.get r with
  |some (.ptr b o)=>some (.ptr b (o+off))
  |some (.ep cs)=>if off<=cs.length then some (.ep (cs.drop off))else none
  |_=>none
 | .slice true _ x lo hi=>
  match x.get r,cT r lo,cT r hi with
  |some (.d (.str s)),some lo,some hi=>
   (en s.size hi).bind fun h=>(em h lo).map fun l=> .d (.str (s.extract l h))
  |_,_,_=>none
 | .slice false sz x lo hi=>
  match x.get r,cT r lo,cT r hi with
  |some (.d (.sl g xs)),some lo,some hi=>
   if xs.all (fun e=>e.cells.length=sz)then(en xs.length hi).bind fun h=>(em h lo).map fun l=> .d (.sl (if g= .nil then .nil else .sub) ((xs.take h).drop l))else none
  |_,_,_=>none
 | .makeFunc f caps=>(cO r caps).map fun vs=> .fn f vs
 | .extract x i=>
  match x.get r with
  |some (.d (.tup vs))=>(vs[i]?).map .d
  |some (.ag true vs)=>vs[i]?
  |_=>none
 | .len true x=>
  match x.get r with
  |some (.d (.str s))=>some (aa s.size)
  |_=>none
 | .len false x=>
  match x.get r with
  |some (.d (.sl _ xs))=>some (aa xs.length)
  |some (.bsl _ _ _ _ n)=>some (aa n)
  |some (.tsl _ _ _ n)=>some (aa n)
  |_=>none
 |_=>none
def AV.plainT:AV->Bool
 | .d (.int _ _)=>true
 | .d (.bool _)=>true
 | .d (.str _)=>true
 | .d (.sl _ [])=>true
 | .tsl _ _ _ _=>true
 |_=>false
def jg(cs:List AV)(ds:Option (List DV)):Option AV:=
 match ds with
 |some ds=>some (.d (.agg ds))
 |none=>if cs.all AV.plainT then some (.ag false cs)else none
def aG(B:ah)(agg:Bool)(sz i off:Nat):Option AV:=
 (aI B i).bind fun cs=>
  if agg then(if off+sz<=cs.length then jg ((cs.drop off).take sz) (aM ((cs.drop off).take sz))else none)else cs[off]?
def St.put(s:St)(dst:Option Nat)(v:AV):St:=
 match dst with
 |some d=>{s with r:=(d,v)::s.r}
 |none=>s
def je(s:St)(sz i off:Nat)(v:AV):Option St:=
 (aI s.B i).bind fun cs=>
  if v.cells.length=sz/\off+sz<=cs.length/\v.cells.all AV.isCell/\v.safe i then
   some {s with B:=s.B.set i (some (splice cs off v.cells))}
  else none
def eO(s:St)(new:Id)(sz bytes:Nat)(x y:DV):Option (AV×St):=
 match x,y with
 | .sl g xs,.sl _ ys=>
  if ys.all (fun e=>e.cells.length=sz/\e.cells.all DV.isCell)then
   if ys.isEmpty then some (.d (.sl g xs),s)
   else if(xs.length+ys.length)*bytes<=140737488355328 then
    match g with
    | .nil=>some (.d (.sl (.own new sz) ys),{s with A:=Ids.add new s.A})
    | .own a b=>
     if xs.isEmpty then some (.d (.sl (.own new sz) ys),{s with A:=Ids.add new s.A})
     else if b=sz/\s.A a=true then some (.d (.sl (.own new sz) (xs++ys)),{s with A:=Ids.add new (Ids.del a s.A)})else none
    | .sub=>none
   else none
  else none
 |_,_=>none
def chunks(agg:Bool)(sz:Nat):Nat->List DV->Option (List DV)
 |0,_=>some []
 |n+1,cs=>(cut agg sz cs).bind fun v=>if v.cells.length=sz/\v.cells.all DV.isCell then(chunks agg sz n (cs.drop sz)).map (v::·)else none
def cp(f:AV->Option DV):List AV->Option (List DV)
 | []=>some []
 |v::r=>(f v).bind fun d=>(cp f r).map (d::·)
def AV.frzC(B:ah):Nat->AV->Option DV
 |_,.d v=>some v
 |n+1,.tsl agg i sz m=>(aI B i).bind fun cs=>(cp (AV.frzC B n) cs).bind fun ds=>if ds.length=m*sz then(chunks agg sz m ds).map fun xs=> .sl .sub xs else none
 |_,_=>none
def AV.frz(B:ah):AV->Option DV
 | .ag false cs=>(cp (AV.frzC B B.length) cs).bind fun ds=>if ds.all DV.isCell then some (.agg ds)else none
 |v=>v.frzC B B.length
def bJ:DV->Bool
 | .agg _=>true
 |_=>false
mutual
def Cd(b:Nat):DV->List AV×ah
 | .agg cs=>pG b cs
 | .sl g []=>([.d (.sl g [])],[])
 | .sl _ (x::xs)=>
  let r:=pG b (x::xs)
  ([.tsl (bJ x) (b+r.2.length) x.cells.length (xs.length+1)],r.2++[some r.1])
 | .tup vs=>([.d (.tup vs)],[])
 | .int k n=>([.d (.int k n)],[])
 | .bool v=>([ar v],[])
 | .str v=>([.d (.str v)],[])
def pG(b:Nat):List DV->List AV×ah
 | []=>([],[])
 |v::r=>
  let p:=Cd b v
  let q:=pG (b+p.2.length) r
  (p.1++q.1,p.2++q.2)
end
def I9(b:Nat)(v:DV):AV×ah:=
 match v with
 | .agg cs=>(.ag false (pG b cs).1,(pG b cs).2)
 |v=>((Cd b v).1.headD .und,(Cd b v).2)
def AE(b:Nat):List DV->List AV×ah
 | []=>([],[])
 |v::r=>
  let p:=I9 b v
  let q:=AE (b+p.2.length) r
  (p.1::q.1,p.2++q.2)
def DV.thaw(b:Nat)(v:DV):AV×ah:=
 match v with
 | .tup vs=>(.ag true (AE b vs).1,(AE b vs).2)
 |v=>I9 b v
mutual
def DV.names:DV->Option (List Id)
 | .sl _ []=>some []
 | .sl (.own a _) (x::xs)=>(DV.namess (x::xs)).map (·++[a])
 | .sl _ (_::_)=>none
 | .agg cs=>DV.namess cs
 | .tup _=>none
 | .int _ _=>some []
 | .bool _=>some []
 | .str _=>some []
def DV.namess:List DV->Option (List Id)
 | []=>some []
 |v::r=>(v.names).bind fun l=>(DV.namess r).map (l++·)
end
def fq(draw init:Bool)(L0 b:Nat):Bool:=draw&&(if init then decide (b<L0)else decide (L0<=b))
def et(r:List (Nat×AV))(b:Nat)(av:List Nat):Bool:=av.all fun t=>match lk r t with
 |some (.ptr c _)=>c !=b
 |_=>false
def aP(call:aZ)(p:Id)(draw:Bool)(L0 i:Nat)(o:VOper)(s:St):Option St:=
 match o.op with
 | .alloc k zero=>
  if ct s.B (L0+k)/\zero.all DV.isCell then some ({s with B:=s.B.set (L0+k) (some (zero.map .d))}.put o.dst (.ptr (L0+k) 0))else none
 | .box k x=>
  (x.get s.r).bind fun v=>
   if ct s.B (L0+k)/\v.cells.all AV.isCell/\v.safe (L0+k)then
    some ({s with B:=s.B.set (L0+k) (some v.cells)}.put o.dst (.ptr (L0+k) 0))
   else none
 | .makeSlice k sz bytes zero x=>
  match x.get s.r with
  |some (.d (.int _ n))=>
   if draw=false/\ct s.B (L0+k)/\0<=n/\n.toNat*bytes<=140737488355328/\n<9223372036854775808/\zero.cells.length=sz/\zero.cells.all DV.isCell then
    some ({s with B:=s.B.set (L0+k) (some (((List.replicate n.toNat zero).flatMap DV.cells).map .d))}.put o.dst
     (.bsl ((s.c+i)::p) (match zero with| .agg _=>true|_=>false) (L0+k) sz n.toNat))
   else none
  |_=>none
 | .load agg sz a=>
  match a.get s.r with
  |some (.ep cs)=>(cut agg sz cs).map fun v=>s.put o.dst (.d v)
  |some (.ptr b off)=>if draw/\L0<=b then none else(aG s.B agg sz b off).map fun v=>s.put o.dst v
  |_=>none
 | .store init sz a x=>
  match a.get s.r,x.get s.r with
  |some (.ptr b off),some v=>
   if fq draw init L0 b then none else(je s sz b off v).map fun s=>s.put o.dst .und
  |_,_=>none
 | .storeN sz a x av=>
  match a.get s.r,x.get s.r with
  |some (.ptr b off),some v=>
   if fq draw false L0 b|| !et s.r b av then none else(je s sz b off v).map fun s=>s.put o.dst .und
  |_,_=>none
 | .buildSlice sz zero len parts=>
  if zero.cells.length=sz/\zero.cells.all DV.isCell/\len*sz<=16777216/\len<=16777216 then
   (cF (VX.get s.r) sz (List.replicate len zero) parts).map fun xs=>
    {s with A:=Ids.add ((s.c+i)::p) s.A}.put o.dst (.d (.sl (.own ((s.c+i)::p) sz) xs))
  else none
 | .append sz bytes x y=>
  match x.get s.r,y.get s.r with
  |some (.d v),some (.d w)=>(eO s ((s.c+i)::p) sz bytes v w).map fun(v,s)=>s.put o.dst v
  |_,_=>none
 | .call iso f args=>
  match f.get s.r,cO s.r args with
  |some (.fn k caps),some vs=>
   if iso then
    match aM vs,caps with
    |some _,[]=>
     match call ((s.c+i)::p) k vs [] Ids.none with
     |some {v:= .d v,A,B:=_}=>some ({s with A:=Ids.or A s.A}.put o.dst (.d v))
     |_=>none
    |_,_=>none
   else
    match call ((s.c+i)::p) k (vs++caps) s.B s.A with
    |some {v,A,B}=>some ({s with A:=A,B:=B}.put o.dst v)
    |none=>none
  |_,_=>none
 | .loadS agg sz a c=>
  match a.get s.r,lk s.r c with
  |some (.ptr b off),some (.ptr e _)=>if b=e\/(draw/\L0<=b)then none else(aG s.B agg sz b off).map fun v=>s.put o.dst v
  |_,_=>none
 | .callS c f args=>
  match f.get s.r,cO s.r args,lk s.r c with
  |some (.fn k []),some (.ptr b off::vs),some (.ptr e _)=>
   if b≠e then none else(aM vs).bind fun _=>(aI s.B b).bind fun cs=>(aM cs).bind fun _=>
    match call ((s.c+i)::p) k (.ptr 0 off::vs) [some cs] Ids.none with
    |some {v:= .d v,A,B:=[some cs']}=>(aM cs').map fun _=>{s with B:=s.B.set b (some cs'),A:=Ids.or A s.A}.put o.dst (.d v)
    |_=>none
  |_,_,_=>none
 | .append1 sz bytes x y h v t9=>
  match x.get s.r,y.get s.r,h.get s.r,v.get s.r with
  |some (.d (.sl g xs)),some (.d (.sl j [z])),some (.d (.int _ n)),some (.d w)=>
   if draw=false/\n=xs.length/\z.cells.length=sz/\z.cells.all DV.isCell=true/\w.cells.length=sz/\w.cells.all DV.isCell=true/\lk s.r t9=none then
    (eO s ((s.c+i)::p) sz bytes (.sl g xs) (.sl j [w])).map fun q=>q.2.put o.dst q.1
   else none
  |_,_,_,_=>none
 |op=>(aA s.r op).map fun v=>s.put o.dst v
def cJ(r:List (Nat×AV)):Option (Nat×Bool)->Option Bool
 |none=>some true
 |some (t,c)=>
  match lk r t with
  |some (.d (.bool b))=>some (b==c)
  |some .und=>some false
  |_=>none
def cD(call:aZ)(p:Id)(draw:Bool)(L0:Nat):Nat->List VOper->St->Option St
 |_,[],s=>some s
 |i,o::os,s=>
  match cJ s.r o.guard with
  |some true=>(aP call p draw L0 i o s).bind (cD call p draw L0 (i+1) os)
  |some false=>cD call p draw L0 (i+1) os (s.put o.dst .und)
  |none=>none
def keep(r:List (Nat×AV)):List Nat->List (Nat×AV)
 | []=>[]
 |t::ts=>
  match lk r t with
  |some v=>(t,v)::keep r ts
  |none=>keep r ts
def aD(m:Nat):List (Nat×AV)->Bool
 | []=>true
 |(_,v)::r=>v.safe m&&aD m r
def dd:List Nat->List Nat
 | []=>[]
 |x::l=>if(dd l).contains x then dd l else x::dd l
theorem xG(x:Nat):∀l:List Nat,x∈dd l↔x∈l
 | []=>Iff.rfl
 |y::l=>by
  simp only[dd];split
  ·rename_i h
   rw[xG x l,br];constructor
   ·exact .inr
   ·rintro(rfl|b)
    ·exact(xG x l).1 (by simpa using h)
    ·exact b
  ·rw[br,br,xG x l]
def jy:List VOper->List (List Nat)->List (List Nat)
 | [],acc=>acc
 |o::os,acc=>jy os (acc++[dd (o.after.flatMap fun j=>j::acc.getD j [])])
inductive Kind where
 |pure|read|room|init|row|app|iso|eff
 deriving DecidableEq
def VOp.kind:VOp->Kind
 | .load _ _ _=> .read
 | .alloc _ _| .box _ _=> .room
 | .store init _ _ _=>if init then .init else .eff
 | .storeN _ _ _ _=> .eff
 | .buildSlice _ _ _ _=> .row
 | .append _ _ _ _=> .app
 | .call iso _ _=>if iso then .iso else .eff
 | .makeSlice _ _ _ _ _=> .eff
 | .callS _ _ _=> .eff
 | .append1 _ _ _ _ _ _ _=> .eff
 | .loadS _ _ _ _=> .read
 |_=> .pure
def Kind.meet:Kind->Kind->Bool
 | .pure,_|_,.pure=>true
 | .eff,_|_,.eff=>false
 | .init,.room| .room,.init| .init,.init=>false
 | .app,.row| .row,.app| .app,.app| .app,.iso| .iso,.app=>false
 |_,_=>true
def VX.tmps:VX->List Nat
 | .t n=>[n]
 | .c _=>[]
def VOp.tmps:VOp->List Nat
 | .move x| .box _ x| .load _ _ x| .nilCheck x| .not x| .conv _ x| .fieldAddr _ x| .extract x _| .len _ x| .eqNil _ x| .makeSlice _ _ _ _ x=>x.tmps
 | .pick a b c=>a.tmps++b.tmps++c.tmps
 | .alloc _ _| .fail=>[]
 | .build _ ps=>ps.flatMap fun q=>q.2.2.tmps
 | .buildSlice _ _ _ ps=>ps.flatMap fun q=>q.2.tmps
 | .storeN _ a x av=>a.tmps++x.tmps++av
 | .store _ _ a x| .bin _ a x| .eqAgg _ _ a x| .eqB _ a x| .index a x| .indexAddr _ _ a x| .append _ _ a x=>a.tmps++x.tmps
 | .slice _ _ x lo hi=>x.tmps++(lo.toList++hi.toList).flatMap VX.tmps
 | .makeFunc _ cs=>cs.flatMap VX.tmps
 | .call _ f as=>f.tmps++as.flatMap VX.tmps
 | .callS c f as=>f.tmps++as.flatMap VX.tmps++[c]
 | .loadS _ _ a c=>a.tmps++[c]
 | .append1 _ _ x y i v t9=>x.tmps++y.tmps++i.tmps++v.tmps++[t9]
def VOper.looks(o:VOper):List Nat:=o.op.tmps++(match o.guard with|some (t,_)=>[t]|none=>[])
def oY(a b:VOper):Bool:=
 match a.dst with
 |some t=> !(b.looks.contains t)&& !(b.dst==some t)
 |none=>true
def wS:VOp->VOp->Bool
 | .load _ _ (.t x),.storeN _ _ _ av=>av.contains x
 | .storeN _ _ _ av,.load _ _ (.t x)=>av.contains x
 | .loadS _ _ _ c,.callS c' _ _=>c==c'
 | .callS c' _ _,.loadS _ _ _ c=>c==c'
 | .buildSlice _ _ _ _,.callS _ _ _=>true
 | .callS _ _ _,.buildSlice _ _ _ _=>true
 |_,_=>false
def sA(cl:List (List Nat))(i j:Nat)(a b:VOper):Bool:=
 (cl.getD j []).contains i||((a.op.kind.meet b.op.kind||wS a.op b.op)&&oY a b&&oY b a)
def uw(cl:List (List Nat))(i:Nat)(a:VOper):Nat->List VOper->Bool
 |_,[]=>true
 |j,b::r=>sA cl i j a b&&uw cl i a (j+1) r
def uF(cl:List (List Nat)):Nat->List VOper->Bool
 |_,[]=>true
 |i,a::r=>uw cl i a (i+1) r&&uF cl (i+1) r
def ahead:Nat->List VOper->Bool
 |_,[]=>true
 |i,o::r=>o.after.all (fun j=>decide (j<i))&&ahead (i+1) r
def ip(ops:List VOper):Bool:=ahead 0 ops&&uF (jy ops []) 0 ops
structure SFn where
 np:Nat
 pre:VCode
 rest:VCode
 results:List VRes
 row:Nat
 cond:Nat
 srt:Nat
 cmp:Nat
structure Env where
 code:Nat->Option VFn
 nat:Nat->Option (Id->List AV->Option (DV×Ids))
 spec:Nat->Option SFn:=fun _=>none
 base:Nat->Option Nat:=fun _=>none
def DV.like:DV->DV->Bool
 | .int k _,.int k' _=>decide (k=k')
 | .bool _,.bool _=>true
 | .str _,.str _=>true
 | .sl _ _,.sl _ _=>true
 |_,_=>false
mutual
def DV.rest(A:Ids)(a:Id)(rs:List DV):DV->Bool
 | .agg cs=>DV.rests A a rs cs
 | .tup cs=>DV.rests A a rs cs
 | .sl g xs=>(xs.isEmpty||(xs.flatMap DV.cells).any (fun c=>rs.all fun r=> !c.like r)||(match g with| .own b _=>A b&& !decide (b=a)|_=>false))&&DV.rests A a rs xs
 | .int _ _=>true
 | .bool _=>true
 | .str _=>true
def DV.rests(A:Ids)(a:Id)(rs:List DV):List DV->Bool
 | []=>true
 |v::r=>v.rest A a rs&&DV.rests A a rs r
end
def AV.rest(A:Ids)(a:Id)(rs:List DV):AV->Bool
 | .d v=>v.rest A a rs
 | .ptr _ _=>true
 | .nilp=>true
 | .bsl _ _ _ _ _=>true
 | .tsl _ _ _ _=>true
 | .und=>true
 | .fn _ []=>true
 |_=>false
def tN(A:Ids)(a:Id)(rs:List DV)(r:List (Nat×AV)):Bool:=r.all fun q=>q.2.rest A a rs
def vv(A:Ids)(a:Id)(rs:List DV)(B:ah):Bool:=B.all fun b=>match b with|none=>true|some cs=>cs.all (AV.rest A a rs)
def cC(L:Nat)(B:ah):ah:=List.replicate L none++B.drop L
def gE(x:Gho)(s:St):Option St:=
 match x with
 | .focR t live=>
  match lk s.r t with
  |some (.d (.sl (.own a sz) (x::xs)))=>
   if s.A a=true/\live.contains t=false/\tN s.A a ((x::xs).flatMap DV.cells) (keep s.r live)=true/\vv s.A a ((x::xs).flatMap DV.cells) s.B=true/\DV.rests s.A a ((x::xs).flatMap DV.cells) ((x::xs).flatMap DV.cells)=true then
    some ⟨(t,.tsl (bJ x) s.B.length sz (xs.length+1))::keep s.r live,s.B++[some (((x::xs).flatMap DV.cells).map .d)],Ids.del a s.A,s.c⟩
   else none
  |_=>none
 | .focC t off live=>
  match lk s.r t with
  |some (.ptr (j+1) o)=>
   (aI s.B (j+1)).bind fun cs=>
    match cs[o+off]? with
    |some (.d (.sl (.own a sz) (x::xs)))=>
     if s.A a=true/\ct s.B j=true/\tN s.A a ((x::xs).flatMap DV.cells) (keep s.r live)=true/\
      vv s.A a ((x::xs).flatMap DV.cells) (s.B.set (j+1) (some (cs.set (o+off) (.tsl (bJ x) j sz (xs.length+1)))))=true/\DV.rests s.A a ((x::xs).flatMap DV.cells) ((x::xs).flatMap DV.cells)=true then
      some ⟨keep s.r live,(s.B.set (j+1) (some (cs.set (o+off) (.tsl (bJ x) j sz (xs.length+1))))).set j (some (((x::xs).flatMap DV.cells).map .d)),Ids.del a s.A,s.c⟩
     else none
    |_=>none
  |_=>none
 | .frzR t L live=>
  match lk s.r t with
  |some v=>
   if live.contains t=false/\aD L (keep s.r live)=true/\L<=s.B.length then
    (v.frz (cC L s.B)).map fun d=>⟨(t,.d d)::keep s.r live,s.B.take L,s.A,s.c⟩
   else none
  |none=>none
 | .frzB t L live=>
  match lk s.r t with
  |some (.ptr i 0)=>
   if L<=i/\live.contains t=false/\aD L (keep s.r live)=true/\L<=s.B.length then
    (aI s.B i).bind fun cs=>(cp (AV.frzC (cC L s.B) s.B.length) cs).bind fun ds=>
     if ds.all DV.isCell then some ⟨(t,.ptr L 0)::keep s.r live,s.B.take L++[some (ds.map .d)],s.A,s.c⟩else none
   else none
  |_=>none
def Gho.low:Gho->Nat->Bool
 | .focR _ _,_=>true
 | .focC _ _ _,_=>true
 | .frzR _ L _,m=>decide (m<=L)
 | .frzB _ L _,m=>decide (m<=L)
def m8(call:aZ)(p:Id)(na:Nat)(live:List Nat)(pre tl:List VOper)(s:St):Option St:=
 if ip pre=false then none
 else(cD call p true s.B.length 0 pre {s with B:=s.B++List.replicate na none}).bind fun s1=>
  (cD call p false s.B.length pre.length tl s1).map fun s2=>{s2 with r:=keep s2.r live,c:=s.c+(pre.length+tl.length)}
def VCode.plain:VCode->Bool
 | .seq a b=>a.plain&&b.plain
 | .cond _ a b=>a.plain&&b.plain
 | .block _ c=>c.plain
 | .loop _ c=>c.plain
 | .ghost _ _=>false
 |_=>true
def VCode.over(m:Nat):VCode->Bool
 | .seq a b=>a.over m&&b.over m
 | .cond _ a b=>a.over m&&b.over m
 | .block _ c=>c.over m
 | .loop _ c=>c.over m
 | .ghost x c=>x.low m&&c.over m
 |_=>true
def I_(b:Option Nat)(c:VCode):Bool:=
 match b with
 |none=>c.plain
 |some m=>c.over m
def qe(L1:Nat)(live:List Nat)(s:St):Option St:=
 let r:=keep s.r live
 if aD L1 r/\L1<=s.B.length then some {s with r:=r,B:=s.B.take L1}else none
def iX(f:St->Option (Ex×St))(L1:Nat)(live:List Nat):Nat->St->Option (Ex×St)
 |0,_=>none
 |n+1,s=>
  (qe L1 live s).bind fun s0=>
   (f s0).bind fun r=>
    match r.1 with
    | .normal=>iX f L1 live n r.2
    |_=>some r
def ib(call:aZ)(p:Id)(draw:Bool)(na:Nat)(live:List Nat)(ops:List VOper)(s:St):Option St:=
 if draw&& !ip ops then none
 else(cD call p draw s.B.length 0 ops {s with B:=s.B++List.replicate na none}).map fun s'=>{s' with r:=keep s'.r live,c:=s.c+ops.length}
def bF(call:aZ)(p:Id)(n:Nat):VCode->St->Option (Ex×St)
 | .skip,s=>some (.normal,s)
 | .ret,s=>some (.ret,s)
 | .exit id,s=>some (.exit id,s)
 | .seq a b,s=>
  (bF call p n a s).bind fun r=>
   match r.1 with
   | .normal=>bF call p n b r.2
   |_=>some r
 | .region draw na live ops,s=>(ib call p draw na live ops s).map fun s'=>(.normal,s')
 | .cond x a b,s=>
  match x.get s.r with
  |some (.d (.bool true))=>bF call p n a s
  |some (.d (.bool false))=>bF call p n b s
  |_=>none
 | .block id c,s=>
  (bF call p n c s).map fun r=>if r.1= .exit id then(.normal,r.2)else r
 | .loop live c,s=>iX (bF call p n c) s.B.length live n s
 | .ghost x c,s=>(gE x s).bind (bF call p n c)
 | .regionT na live pre tl,s=>(m8 call p na live pre tl s).map fun s'=>(.normal,s')
 | .regionF draw na live fs,s=>(ib call p draw na live (gn fs) s).map fun s'=>(.normal,s')
def iv(s:St):VRes->Option AV
 | .tmp t=>lk s.r t
 | .cell t agg sz=>
  match lk s.r t with
  |some (.ptr i off)=>aG s.B agg sz i off
  |_=>none
def iK(s:St):List VRes->Option (List AV)
 | []=>some []
 |x::xs=>(iv s x).bind fun v=>(iK s xs).map (v::·)
def finish(L:Nat)(p:Id)(s:St)(rs:List VRes):Option Res:=
 match iK s rs with
 |some [.d v]=>some ⟨.d v,s.A,s.B.take L⟩
 |some [.ptr i off]=>some ⟨.ptr i off,s.A,s.B⟩
 |some [.bsl _ agg i sz n]=>
  if L<=i/\n<9223372036854775808 then
   ((aI s.B i).bind aM).bind fun cs=>if cs.length=n*sz then(chunks agg sz n cs).map fun xs=>⟨.d (.sl (.own (s.c::p) sz) xs),Ids.add (s.c::p) s.A,s.B.take L⟩else none
  else none
 |some [_]=>none
 |some vs=>(aM vs).map fun ds=>⟨.d (.tup ds),s.A,s.B.take L⟩
 |none=>none
def aV:Nat->List AV->List (Nat×AV)
 |_,[]=>[]
 |i,v::r=>(i,v)::aV (i+1) r
def DV.flat:DV->Bool
 | .int _ _=>true
 | .bool _=>true
 | .str _=>true
 | .sl _ []=>true
 |_=>false
def j3(call:aZ)(p:Id)(sf:SFn)(A:Ids)(a:Id)(x:DV)(xr:List DV):Option (List DV×Ids):=
 (DV.namess (x::xr)).bind fun l=>
  if A a=true/\l.all A=true/\l.contains a=false then
   match call p sf.srt [.tsl true 0 x.cells.length (xr.length+1),.fn sf.cmp []] [some (((x::xr).flatMap DV.cells).map .d)] (fun b=>l.contains b)with
   |some ⟨_,c,[some cs]⟩=>(aM cs).bind fun es=>if es.length=(xr.length+1)*x.cells.length then(chunks true x.cells.length (xr.length+1) es).map fun ys=>(ys,Ids.add a c)else none
   |_=>none
  else none
def om(s:St):Option (DV×DV):=
 match lk s.r 3,lk s.r 4,s.B with
 |some (.ptr 0 0),some (.ptr 1 0),[some [.d b,.d c,_],some [.d z0,.d h,.d e]]=>
  if b.flat&&c.flat&&z0.flat&&h.flat&&e.flat&&b.isCell&&c.isCell then some (b,c)else none
 |_,_,_=>none
def kZ(call:aZ)(n:Nat)(p:Id)(sf:SFn)(ds:List DV):Option (DV×Ids):=
 if ds.length≠sf.np then none else
  (bF call p n sf.pre ⟨aV 0 (ds.map .d),[],Ids.none,0⟩).bind fun r=>
   match r.1,lk r.2.r sf.cond,lk r.2.r sf.row with
   | .normal,some (.d (.bool true)),some (.d (.sl (.own a sz) (x::xr)))=>
    (om r.2).bind fun y=>(j3 call ((r.2.c+1)::p) sf r.2.A a x xr).map fun q=>(.agg [y.1,y.2,.sl (.own a sz) q.1],q.2)
   | .normal,some (.d (.bool false)),_| .normal,some (.d (.bool true)),some (.d (.sl _ []))=>
    (bF call p n sf.rest r.2).bind fun b=>
     match b.1 with
     | .exit _=>none
     |_=>(finish 0 p b.2 sf.results).bind fun q=>match q.v with
      | .d v=>some (v,q.A)
      |_=>none
   |_,_,_=>none
def dJ(E:Env):Nat->aZ
 |0,_,_,_,_,_=>none
 |n+1,p,f,args,B,A=>
  match E.nat f with
  |some g=>(aM args).bind fun _=>(g p args).map fun r=>⟨.d r.1,Ids.or r.2 A,B⟩
  |none=>
   match E.code f with
   |none=>
    match E.spec f with
    |none=>none
    |some sf=>(aM args).bind fun ds=>(kZ (dJ E n) n p sf ds).map fun r=>⟨.d r.1,Ids.or r.2 A,B⟩
   |some vf=>
    if args.length≠vf.np then none else
     match E.base f with
     |none=>(bF (dJ E n) p n vf.code ⟨aV 0 args,B,A,0⟩).bind fun r=>
      match r.1 with
      | .exit _=>none
      |_=>finish B.length p r.2 vf.results
     |some m=>if B.length≠m then none else(bF (dJ E n) p n vf.code ⟨aV 0 args,B,Ids.none,0⟩).bind fun r=>
      match r.1 with
      | .exit _=>none
      |_=>(finish B.length p r.2 vf.results).map fun q=>⟨q.v,Ids.or q.A A,q.B⟩
def Cb(b c1 c2 c3:VCode)(srt cmp:Nat):VFn:=⟨2,[.cell 4 true 3],.seq b (.seq c1 (.seq c2 (.seq
 (.seq c3 (.cond (.t 42) (.region false 0 [3,4,5] [⟨some 43,.move (.t 5),none,[]⟩,⟨some 44,.call false (.c (.fn srt [])) [.t 43,.c (.fn cmp [])],none,[]⟩]) .skip))
 (.seq (.region false 0 [3,4] [⟨some 45,.move (.t 5),none,[]⟩,⟨some 46,.fieldAddr 2 (.t 3),none,[]⟩,⟨none,.store false 1 (.t 46) (.t 45),none,[]⟩])
 (.seq (.region false 0 [4] [⟨some 47,.load true 3 (.t 3),none,[]⟩,⟨none,.store false 3 (.t 4) (.t 47),none,[]⟩]) .ret)))))⟩
def gX(b c1 c2 c3:VCode)(srt cmp:Nat):SFn:=⟨2,.seq b (.seq c1 (.seq c2 c3)),
 .seq (.cond (.t 42) (.region false 0 [3,4,5] [⟨some 43,.move (.t 5),none,[]⟩,⟨some 44,.call false (.c (.fn srt [])) [.t 43,.c (.fn cmp [])],none,[]⟩]) .skip)
 (.seq (.region false 0 [3,4] [⟨some 45,.move (.t 5),none,[]⟩,⟨some 46,.fieldAddr 2 (.t 3),none,[]⟩,⟨none,.store false 1 (.t 46) (.t 45),none,[]⟩])
 (.seq (.region false 0 [4] [⟨some 47,.load true 3 (.t 3),none,[]⟩,⟨none,.store false 3 (.t 4) (.t 47),none,[]⟩]) .ret)),[.cell 4 true 3],5,42,srt,cmp⟩
def rk:List (Nat×SFn)->Nat->Option SFn
 | [],_=>none
 |(k,v)::r,n=>if n=k then some v else rk r n
theorem Au:∀{l:List (Nat×SFn)} {k:Nat} {v:SFn},rk l k=some v->(k,v)∈l
 | [],_,_,h=>by simp[rk]at h
 |(a,u)::r,k,v,h=>by
  simp only[rk]at h;split at h
  ·rename_i b
   simp at h;subst h;subst b;simp
  ·exact dH _ (Au h)
section
open Classical
def lj(c c':aZ):Prop:=∀p f as B O r,c p f as B O=some r->c' p f as B O=some r
def gf{σ τ:Type}(f g:σ->Option τ):Prop:=∀s r,f s=some r->g s=some r
theorem Tz{c c':aZ}(h:lj c c')(p:Id)(draw:Bool)(L0 i:Nat)(o:VOper):gf (aP c p draw L0 i o) (aP c' p draw L0 i o):=by
 intro s r hr;obtain⟨dst,op,g,af⟩:=o;cases op
 case call iso f args=>
  simp only[aP]at hr⊢
  split at hr
  ·rename_i k caps vs h1 e
   split at hr
   ·rename_i b
    simp only[b,if_true];split at hr
    ·rename_i ds hd d
     split at hr
     ·rename_i v A B hc
      rw[h _ _ _ _ _ _ hc];exact hr
     ·simp at hr
    ·simp at hr
   ·rename_i b
    simp only[b];split at hr
    ·rename_i hc
     rw[h _ _ _ _ _ _ hc];exact hr
    ·simp at hr
  ·simp at hr
 case callS cc f args=>
  simp only[aP]at hr⊢
  split at hr
  ·split at hr
   ·simp at hr
   rename_i hb;rw[ak hb];obtain⟨ds,h1,hr⟩:=aw.1 hr;obtain⟨cs,e,hr⟩:=aw.1 hr;obtain⟨es,j,hr⟩:=aw.1 hr;rw[h1,aQ,e,aQ,j,aQ];split at hr
   ·rename_i hc
    rw[h _ _ _ _ _ _ hc];exact hr
   ·simp at hr
  ·simp at hr
 all_goals exact hr
theorem AG{c c':aZ}(h:lj c c')(p:Id)(draw:Bool)(L0:Nat)(os:List VOper):∀i,gf (cD c p draw L0 i os) (cD c' p draw L0 i os):=by
 induction os with
 |nil=>intro i s r hr;exact hr
 |cons o os b=>
  intro i s r hr;simp only[cD]at hr⊢
  split at hr
  ·obtain⟨s1,h1,d⟩:=aw.1 hr
   exact aw.2 ⟨s1,Tz h p draw L0 i o s s1 h1,b _ _ _ d⟩
  ·exact b _ _ _ hr
  ·simp at hr
theorem Hy{c c':aZ}(h:lj c c')(p:Id)(draw:Bool)(na:Nat)(live:List Nat)(ops:List VOper):gf (ib c p draw na live ops) (ib c' p draw na live ops):=by
 intro s r hr;unfold ib at hr⊢
 split
 ·simp_all
 ·rename_i hd
  simp only[hd]at hr;obtain⟨s1,h1,b⟩:=au.1 hr;exact au.2 ⟨s1,AG h p draw _ ops 0 _ _ h1,b⟩
theorem Uv{f g:St->Option (Ex×St)}(h:gf f g)(L1:Nat)(live:List Nat):∀n m,n<=m->gf (iX f L1 live n) (iX g L1 live m):=by
 intro n
 induction n with
 |zero=>intro m _ s r hr;simp[iX]at hr
 |succ n b=>
  intro m hm s r hr;obtain⟨m,rfl⟩:∃k,m=k+1:=⟨m-1,by omega⟩;simp only[iX]at hr⊢
  obtain⟨s0,c,hr⟩:=aw.1 hr;obtain⟨⟨e,s1⟩,h1,hr⟩:=aw.1 hr;refine aw.2 ⟨s0,c,aw.2 ⟨(e,s1),h _ _ h1,?_⟩⟩;cases e with
  |normal=>exact b m (by omega) _ _ hr
  |exit id=>exact hr
  |ret=>exact hr
theorem sB{c c':aZ}(h:lj c c')(p:Id){n m:Nat}(hn:n<=m)(vc:VCode):gf (bF c p n vc) (bF c' p m vc):=by
 induction vc with
 |skip=>intro s r hr;exact hr
 |ret=>intro s r hr;exact hr
 |exit id=>intro s r hr;exact hr
 |seq a b i j=>
  intro s r hr;simp only[bF]at hr⊢
  obtain⟨⟨e,s1⟩,h1,hr⟩:=aw.1 hr;refine aw.2 ⟨(e,s1),i _ _ h1,?_⟩;cases e with
  |normal=>exact j _ _ hr
  |exit id=>exact hr
  |ret=>exact hr
 |region draw na live ops=>
  intro s r hr;simp only[bF]at hr⊢
  obtain⟨s1,h1,d⟩:=au.1 hr;exact au.2 ⟨s1,Hy h p draw na live ops _ _ h1,d⟩
 |regionF draw na live fs=>
  intro s r hr;simp only[bF]at hr⊢
  obtain⟨s1,h1,d⟩:=au.1 hr;exact au.2 ⟨s1,Hy h p draw na live (gn fs) _ _ h1,d⟩
 |cond x a b i j=>
  intro s r hr;simp only[bF]at hr⊢
  split at hr
  ·exact i _ _ hr
  ·exact j _ _ hr
  ·simp at hr
 |block id l k=>
  intro s r hr;simp only[bF]at hr⊢
  obtain⟨s1,h1,d⟩:=au.1 hr;exact au.2 ⟨s1,k _ _ h1,d⟩
 |loop live l k=>
  intro s r hr;simp only[bF]at hr⊢
  exact Uv k _ _ n m hn _ _ hr
 |ghost x l k=>
  intro s r hr;simp only[bF]at hr⊢
  obtain⟨s1,h1,d⟩:=aw.1 hr;exact aw.2 ⟨s1,h1,k _ _ d⟩
 |regionT na live pre tl=>
  intro s r hr;simp only[bF]at hr⊢
  obtain⟨s1,h1,d⟩:=au.1 hr;refine au.2 ⟨s1,?_,d⟩;unfold m8 at h1⊢
  split
  ·rename_i hd;rw[ap hd]at h1;simp at h1
  ·rename_i hd
   rw[ak hd]at h1;obtain⟨s2,y,t⟩:=aw.1 h1;obtain⟨o,u,q⟩:=au.1 t;exact aw.2 ⟨s2,AG h p true _ pre 0 _ _ y,au.2 ⟨o,AG h p false _ tl _ _ _ u,q⟩⟩
theorem Qe{c c':aZ}(h:lj c c')(p:Id)(sf:SFn)(A:Ids)(a:Id)(x:DV)(xr:List DV):∀r,j3 c p sf A a x xr=some r->j3 c' p sf A a x xr=some r:=by
 intro r hr;unfold j3 at hr⊢
 obtain⟨l,b,hr⟩:=aw.1 hr;refine aw.2 ⟨l,b,?_⟩;split at hr
 ·rename_i hc
  rw[ap hc];split at hr
  ·rename_i v e cs d
   rw[h _ _ _ _ _ _ d];exact hr
  ·simp at hr
 ·simp at hr
theorem Pp{c c':aZ}(h:lj c c'){n m:Nat}(hn:n<=m)(p:Id)(sf:SFn)(ds:List DV):∀r,kZ c n p sf ds=some r->kZ c' m p sf ds=some r:=by
 intro r hr;unfold kZ at hr⊢
 split at hr
 ·simp at hr
 rename_i hlen;rw[ak hlen];obtain⟨⟨e,s⟩,h1,b⟩:=aw.1 hr;refine aw.2 ⟨(e,s),sB h p hn sf.pre _ _ h1,?_⟩;simp only at b⊢
 split at b
 ·rename_i a sz x xr j o
  obtain⟨y,l,k⟩:=aw.1 b;obtain⟨q,i,d⟩:=au.1 k;exact aw.2 ⟨y,l,au.2 ⟨q,Qe h _ _ _ _ _ _ _ i,d⟩⟩
 ·rename_i j
  obtain⟨q,i,d⟩:=aw.1 b;exact aw.2 ⟨q,sB h p hn sf.rest _ _ i,d⟩
 ·rename_i g j o
  obtain⟨q,i,d⟩:=aw.1 b;exact aw.2 ⟨q,sB h p hn sf.rest _ _ i,d⟩
 ·simp at b
theorem NH(E:Env):∀n,lj (dJ E n) (dJ E (n+1)):=by
 intro n
 induction n with
 |zero=>intro p f as B O r hr;simp[dJ]at hr
 |succ n d=>
  intro p f as B O r hr;rw[dJ]at hr⊢
  split
  ·rename_i g e
   rw[e]at hr;exact hr
  ·rename_i e
   simp only[e]at hr;split
   ·rename_i c
    simp only[c]at hr;split
    ·rename_i hs;simp[hs]at hr
    ·rename_i sf hs
     simp only[hs]at hr;obtain⟨ds,h1,b⟩:=aw.1 hr;obtain⟨q,j,i⟩:=au.1 b;exact aw.2 ⟨ds,h1,au.2 ⟨q,Pp d (bT n) p sf ds _ j,i⟩⟩
   ·rename_i vf c
    simp only[c]at hr;split at hr
    ·simp at hr
    ·rename_i h
     rw[ak h];split at hr
     ·rename_i hb
      obtain⟨s1,h1,b⟩:=aw.1 hr;exact aw.2 ⟨s1,sB d p (bT n) vf.code _ _ h1,b⟩
     ·rename_i m hb
      split at hr
      ·simp at hr
      rename_i hm;rw[ak hm];obtain⟨s1,h1,b⟩:=aw.1 hr;exact aw.2 ⟨s1,sB d p (bT n) vf.code _ _ h1,b⟩
theorem NC(E:Env){n m:Nat}(h:n<=m):lj (dJ E n) (dJ E m):=by
 induction h with
 |refl=>intro p f as B O r hr;exact hr
 |step _ b=>intro p f as B O r hr;exact NH E _ _ _ _ _ _ _ (b _ _ _ _ _ _ hr)
noncomputable def lim{α:Type}(f:Nat->Option α):Option α:=if h:∃n,(f n).isSome then f (Classical.choose h)else none
theorem xI{α:Type}{f:Nat->Option α}(hm:∀n m r,n<=m->f n=some r->f m=some r)(r:α):lim f=some r↔∃n,f n=some r:=by
 unfold lim;split
 ·rename_i h
  have hs:=Classical.choose_spec h;obtain⟨x,hx⟩:=mt.1 hs;constructor
  ·intro e;exact⟨_,e⟩
  ·rintro⟨n,hn⟩
   rcases Nat.le_total n (Classical.choose h)with hle|hle
   ·exact hm _ _ _ hle hn
   ·have:=hm _ _ _ hle hx
    rw[hn]at this;rw[hx,<-this]
 ·rename_i h
  constructor
  ·intro e;simp at e
  ·rintro⟨n,hn⟩;exact absurd ⟨n,by simp[hn]⟩ h
noncomputable def oX(E:Env):aZ:=fun p f as B O=>lim fun n=>dJ E n p f as B O
theorem JK{E:Env}{p:Id}{f:Nat}{as:List AV}{B:ah}{O:Ids}{r:Res}:oX E p f as B O=some r↔∃n,dJ E n p f as B O=some r:=
 xI (fun n m r h hr=>NC E h _ _ _ _ _ _ hr) r
theorem jd{α:Type}{a b:Option α}(h:∀r,a=some r↔b=some r):a=b:=by
 cases a with
 |none=>cases b with
  |none=>rfl
  |some x=>exact absurd ((h x).2 rfl) (by simp)
 |some x=>exact((h x).1 rfl).symm
end
theorem aX(k:IntKind)(n:Int):(DV.int k n).isCell=true:=rfl
theorem N4(b:Bool):(DV.bool b).isCell=true:=rfl
theorem M5(s:ByteArray):(DV.str s).isCell=true:=rfl
theorem bg(g:Tag)(xs:List DV):(DV.sl g xs).isCell=true:=rfl
theorem bm(v:DV):(AV.d v).isCell=v.isCell:=rfl
theorem qtL(i o:Nat):(AV.ptr i o).isCell=true:=rfl
theorem O8(f:Nat)(c:List AV):(AV.fn f c).isCell=true:=rfl
theorem S7(k:IntKind)(n:Int):(DV.int k n).cells=[.int k n]:=rfl
theorem Yp(b:Bool):(DV.bool b).cells=[.bool b]:=rfl
theorem NQ(s:ByteArray):(DV.str s).cells=[.str s]:=rfl
theorem Q8(g:Tag)(xs:List DV):(DV.sl g xs).cells=[.sl g xs]:=rfl
theorem Tn(cs:List DV):(DV.agg cs).cells=cs:=rfl
theorem Sj(k:IntKind)(n:Int):(AV.d (.int k n)).cells=[.d (.int k n)]:=rfl
theorem quj(b:Bool):(AV.d (.bool b)).cells=[ar b]:=rfl
theorem Tk(s:ByteArray):(AV.d (.str s)).cells=[.d (.str s)]:=rfl
theorem Mb(g:Tag)(xs:List DV):(AV.d (.sl g xs)).cells=[.d (.sl g xs)]:=rfl
theorem ZR(cs:List DV):(AV.d (.agg cs)).cells=cs.map .d:=rfl
theorem Tp(i o:Nat):(AV.ptr i o).cells=[.ptr i o]:=rfl
theorem Tl(f:Nat)(c:List AV):(AV.fn f c).cells=[.fn f c]:=rfl
theorem a_(m:Nat)(v:DV):(AV.d v).safe m=true:=by unfold AV.safe;rfl
theorem Gj(m i o:Nat):(AV.ptr i o).safe m=decide (i<m):=by unfold AV.safe;rfl
theorem fY(m f:Nat)(c:List AV):(AV.fn f c).safe m=AV.safe.safes m c:=by rw[AV.safe]
theorem Qy(m:Nat)(id:Id)(a:Bool)(i sz n:Nat):(AV.bsl id a i sz n).safe m=decide (i<m):=by unfold AV.safe;rfl
theorem eq(m:Nat)(a:Bool)(i sz n:Nat):(AV.tsl a i sz n).safe m=decide (i<m):=by unfold AV.safe;rfl
theorem fJ(m:Nat):AV.safe.safes m []=true:=by unfold AV.safe.safes;rfl
theorem KG(m:Nat)(a:AV)(r:List AV):AV.safe.safes m (a::r)=(a.safe m&&AV.safe.safes m r):=by rw[AV.safe.safes]
theorem UD(op:BinOp)(k:IntKind)(x y:Int):eR op (.int k x) (.int k y)=cR op k x y:=by
 cases op<;>first|rfl|exact ap rfl
theorem LB(k k':IntKind)(x y:Int):eR .shr (.int k x) (.int k' y)=cR .shr k x y:=rfl
theorem Tq(k:IntKind)(x y:Int):cR .add k x y=some (.int k (k.wrap (x+y))):=rfl
theorem Q9(k:IntKind)(x y:Int):cR .sub k x y=some (.int k (k.wrap (x-y))):=rfl
theorem ZQ(k:IntKind)(x y:Int):cR .mul k x y=some (.int k (k.wrap (x*y))):=rfl
theorem OG(k:IntKind)(x y:Int):cR .eql k x y=some (.bool (x==y)):=rfl
theorem YG(k:IntKind)(x y:Int):cR .neq k x y=some (.bool (x !=y)):=rfl
theorem Xv(k:IntKind)(x y:Int):cR .lss k x y=some (.bool (decide (x<y))):=rfl
theorem Oy(k:IntKind)(x y:Int):cR .leq k x y=some (.bool (decide (x<=y))):=rfl
theorem Vt(k:IntKind)(x y:Int):cR .gtr k x y=some (.bool (decide (x>y))):=rfl
theorem UR(k:IntKind)(x y:Int):cR .geq k x y=some (.bool (decide (x>=y))):=rfl
theorem Xx(n:Nat):lk [] n=none:=rfl
theorem Ni(t:Nat)(v:AV)(r:List (Nat×AV))(n:Nat):lk ((t,v)::r) n=if n=t then some v else lk r n:=rfl
theorem Z4(r:List (Nat×AV))(n:Nat):VX.get r (.t n)=lk r n:=rfl
theorem PD(r:List (Nat×AV))(v:AV):VX.get r (.c v)=some v:=rfl
theorem Wl(r:List (Nat×AV)):keep r []=[]:=rfl
theorem So(r:List (Nat×AV))(t:Nat)(ts:List Nat):keep r (t::ts)=match lk r t with|some v=>(t,v)::keep r ts|none=>keep r ts:=rfl
def Dh(v:Option AV)(w:Bool):Option Bool:=
 match v with
 |some (.d (.bool b))=>some (b==w)
 |some .und=>some false
 |_=>none
theorem Un(r:List (Nat×AV)):cJ r none=some true:=rfl
theorem SK(r:List (Nat×AV))(t:Nat)(w:Bool):cJ r (some (t,w))=Dh (lk r t) w:=rfl
theorem ZH(b w:Bool):Dh (some (ar b)) w=some (b==w):=rfl
theorem Um(w:Bool):Dh (some .und) w=some false:=rfl
def runN{β γ:Type}(step:β->Nat->β⊕γ):Nat->β->Nat->β⊕γ
 |0,a,_=> .inl a
 |k+1,a,i=>match step a i with
  | .inl a'=>runN step k a' (i+1)
  | .inr r=> .inr r
section
structure Gh where
 K:Nat->Nat
 row:Id->Option (Nat×Nat×Nat×Nat)
 bx:Nat->Option Nat
inductive VR(g:Gh)(w:World):DV->Value->Prop where
 |int (k:IntKind) (n:Int):VR g w (.int k n) (.int k n)
 |bool (b:Bool):VR g w (.bool b) (.bool b)
 |str (s:ByteArray):VR g w (.str s) (.string s)
 |agg (cs:List DV) (us:Array Value):us.size=cs.length->(∀v:DV,v∈cs->v.isCell=true)->(∀(j:Nat) (v:DV) (u:Value),cs[j]?=some v->us[j]?=some u->VR g w v u)->VR g w (.agg cs) (.agg us)
 |tup (cs:List DV) (us:Array Value):us.size=cs.length->(∀(j:Nat) (v:DV) (u:Value),cs[j]?=some v->us[j]?=some u->VR g w v u)->VR g w (.tup cs) (.tuple us)
 |nil:VR g w (.sl .nil []) (.slice none 0 0)
 |row (t:Tag) (xs:List DV) (ad:Addr) (c s:Nat) (U:Nat->Value):t≠.nil->xs.length<=c->c<=maxLen->
  (∀k,k<xs.length*s->w.cell? (ad.add k)=some (U k))->(xs.length*s=0\/ad.off+xs.length*s<=g.K ad.block)->
  (∀(i:Nat) (x:DV),xs[i]?=some x->x.cells.length=s/\∀v:DV,v∈x.cells->v.isCell=true)->
  (∀(i:Nat) (x:DV) (j:Nat) (v:DV),xs[i]?=some x->x.cells[j]?=some v->VR g w v (U (i*s+j)))->
  (∀a sz,t= .own a sz->ad.off=0/\ad.spot=none/\s=sz/\g.row a=some (ad.block,xs.length,c,s)/\(xs=[]->c=0))->
  VR g w (.sl t xs) (.slice (some ad) xs.length c)
structure ExtV(g:Gh)(w:World)(g':Gh)(w':World):Prop where
 K:∀b,g.K b<=g'.K b
 cell:∀ad:Addr,ad.off<g.K ad.block->w'.cell? ad=w.cell? ad
 row:∀a x,g.row a=some x->g'.row a=some x
theorem ExtV.refl(g:Gh)(w:World):ExtV g w g w:=⟨fun _=>aU _,fun _ _=>rfl,fun _ _ h=>h⟩
theorem ExtV.trans{g g' c:Gh}{w w' w'':World}(h:ExtV g w g' w')(d:ExtV g' w' c w''):ExtV g w c w'':=
 ⟨fun b=>cN (h.K b) (d.K b),fun ad e=>(d.cell ad (mI e (h.K _))).trans (h.cell ad e),fun a x hx=>d.row a x (h.row a x hx)⟩
theorem add_block(ad:Addr)(k:Nat):(ad.add k).block=ad.block:=by unfold Addr.add;split<;>rfl
theorem mi(ad:Addr)(k:Nat):(ad.add k).off=ad.off+k:=by unfold Addr.add;split<;>simp_all
theorem VR.mono{g g':Gh}{w w':World}(e:ExtV g w g' w'){v:DV}{u:Value}(h:VR g w v u):VR g' w' v u:=by
 induction h with
 |int k n=>exact .int k n
 |bool b=>exact .bool b
 |str s=>exact .str s
 |agg cs us hs hc _ j=>exact .agg cs us hs hc j
 |tup cs us hs _ j=>exact .tup cs us hs j
 |nil=>exact .nil
 |row t xs ad c s U l m hm d z hc _ i j=>
  refine .row t xs ad c s U l m hm (fun k o=> ?_) (z.imp_right fun h=>cN h (e.K _)) hc j (fun a sz ha=> ?_)
  ·rw[e.cell _ (by rw[add_block,mi];omega)]
   exact d k o
  ·obtain⟨h1,p,y,q,x⟩:=i a sz ha
   exact⟨h1,p,y,e.row _ _ q,x⟩
variable (fid:Nat->FuncId)
inductive AVR(g:Gh)(w:World):AV->Value->Prop where
 |d (v:DV) (u:Value):VR g w v u->AVR g w (.d v) u
 |ptr (i off b:Nat):g.bx i=some b->AVR g w (.ptr i off) (.pointer (some ⟨b,off,none⟩))
 |ep (cs:List DV) (ad:Addr) (U:Nat->Value):ad.spot=none->ad.off+cs.length<=g.K ad.block->(∀(j:Nat) (v:DV),cs[j]?=some v->w.cell? (ad.add j)=some (U j)/\v.isCell=true/\VR g w v (U j))->AVR g w (.ep cs) (.pointer (some ad))
 |nilp:AVR g w .nilp (.pointer none)
 |fn (f:Nat) (cap:List AV) (us:Array Value):us.size=cap.length->(∀(j:Nat) (v:AV) (u:Value),cap[j]?=some v->us[j]?=some u->AVR g w v u)->AVR g w (.fn f cap) (.func (.func (fid f)) #[] us)
 |bsl (id:Id) (agg:Bool) (i sz n b:Nat):g.bx i=some b->AVR g w (.bsl id agg i sz n) (.slice (some ⟨b,0,none⟩) n n)
 |tsl (agg:Bool) (i sz n c b:Nat):g.bx i=some b->n<=c->c<=maxLen->AVR g w (.tsl agg i sz n) (.slice (some ⟨b,0,none⟩) n c)
 |ag (cs:List AV) (us:Array Value):us.size=cs.length->(∀(j:Nat) (v:AV) (u:Value),cs[j]?=some v->us[j]?=some u->AVR g w v u)->AVR g w (.ag false cs) (.agg us)
 |tp (cs:List AV) (us:Array Value):us.size=cs.length->(∀(j:Nat) (v:AV) (u:Value),cs[j]?=some v->us[j]?=some u->AVR g w v u)->AVR g w (.ag true cs) (.tuple us)
 |und:AVR g w .und undef
structure Ext(g:Gh)(w:World)(g':Gh)(w':World):Prop where
 toExtV:ExtV g w g' w'
 bx:∀i b,g.bx i=some b->g'.bx i=some b
theorem Ext.refl(g:Gh)(w:World):Ext g w g w:=⟨ExtV.refl g w,fun _ _ h=>h⟩
theorem Ext.trans{g g' c:Gh}{w w' w'':World}(h:Ext g w g' w')(d:Ext g' w' c w''):Ext g w c w'':=
 ⟨ExtV.trans h.toExtV d.toExtV,fun i b hb=>d.bx i b (h.bx i b hb)⟩
theorem AVR.mono{g g':Gh}{w w':World}(e:Ext g w g' w'){v:AV}{u:Value}(h:AVR fid g w v u):AVR fid g' w' v u:=by
 induction h with
 |d v u h=>exact .d v u (h.mono e.toExtV)
 |ptr i off b h=>exact .ptr i off b (e.bx _ _ h)
 |ep cs ad U hs p h=>
  exact .ep cs ad U hs (cN p (e.toExtV.K _)) fun j v hj=>by
   obtain⟨h1,l,o⟩:=h j v hj;have m:j<cs.length:=(aK.1 hj).1;exact⟨by rw[e.toExtV.cell _ (by rw[add_block,mi];omega)];exact h1,l,o.mono e.toExtV⟩
 |nilp=>exact .nilp
 |fn f cap us hs _ k=>exact .fn f cap us hs k
 |bsl id agg i sz n b h=>exact .bsl id agg i sz n b (e.bx _ _ h)
 |tsl agg i sz n c b h h1 l=>exact .tsl agg i sz n c b (e.bx _ _ h) h1 l
 |ag cs us hs _ k=>exact .ag cs us hs k
 |tp cs us hs _ k=>exact .tp cs us hs k
 |und=>exact .und
theorem AVR.data{g g':Gh}{w w':World}(e:ExtV g w g' w'){v:DV}{u:Value}(h:AVR fid g w (.d v) u):AVR fid g' w' (.d v) u:=by
 cases h with
 |d _ _ h=>exact .d _ _ (h.mono e)
structure Core(g:Gh)(w:World)(B:ah)(A:Ids):Prop where
 box:∀i b,g.bx i=some b->∃cs arr e,B[i]?=some (some cs)/\w.heap[b]?=some (.cells arr e (0,0))/\cs.length<=arr.size/\
  (∀(j:Nat) (v:AV) (u:Value),cs[j]?=some v->arr[j]?=some u->AVR fid g w v u)/\(∀v,v∈cs->v.isCell=true/\v.safe i=true)/\g.K b=0
 inj:∀i j b,g.bx i=some b->g.bx j=some b->i=j
 opn:∀a,A a=true->∃b n c sz arr e,g.row a=some (b,n,c,sz)/\w.heap[b]?=some (.cells arr e (0,0))/\c*sz<=arr.size/\g.K b=n*sz/\n<=c/\(∀i,g.bx i≠some b)
 apart:∀a a' b x x',A a=true->A a'=true->g.row a=some (b,x)->g.row a'=some (b,x')->a=a'
 K0:∀b,w.heap.size<=b->g.K b=0
def Gh.blk(g:Gh)(a:Id):Option Nat:=(g.row a).map (·.1)
structure Step(N:Id->Prop)(g:Gh)(w:World)(A:Ids)(g':Gh)(w':World)(A':Ids):Prop where
 os:w'.os=w.os
 tape:w'.tape=w.tape
 output:w'.output=w.output
 size:w.heap.size<=w'.heap.size
 ext:ExtV g w g' w'
 keep:∀b,b<w.heap.size->(∀i,g.bx i≠some b)->(∀a,A a=true->g.blk a≠some b)->w'.heap[b]?=w.heap[b]?/\g'.K b=g.K b
 new:∀a,g'.row a≠g.row a->N a
 org:∀a b,A' a=true->g'.blk a=some b->w.heap.size<=b\/∃a0,A a0=true/\g.blk a0=some b
 arr:∀(b:Nat) (c:Array Value) (e:TypeId) (z:Nat×Nat),w.heap[b]?=some (Obj.cells c e z)->∃c':Array Value,w'.heap[b]?=some (Obj.cells c' e z)/\c'.size=c.size
structure Boxes(g:Gh)(w:World)(g':Gh):Prop where
 old:∀i b,g.bx i=some b->g'.bx i=some b
 new:∀i b,g'.bx i=some b->g.bx i=some b\/w.heap.size<=b
theorem Boxes.refl(g:Gh)(w:World):Boxes g w g:=⟨fun _ _ h=>h,fun _ _ h=> .inl h⟩
theorem Boxes.trans{g g' c:Gh}{w w':World}(h:Boxes g w g')(hs:w.heap.size<=w'.heap.size)(d:Boxes g' w' c):Boxes g w c:=
 ⟨fun i b hb=>d.old i b (h.old i b hb),fun i b hb=>by
  rcases d.new i b hb with h1|h1
  ·exact h.new i b h1
  ·exact .inr (cN hs h1)⟩
theorem Step.refl(N:Id->Prop)(g:Gh)(w:World)(A:Ids):Step N g w A g w A:=
 ⟨rfl,rfl,rfl,aU _,.refl g w,fun _ _ _ _=>⟨rfl,rfl⟩,fun a h=>absurd rfl h,fun a b ha hb=> .inr ⟨a,ha,hb⟩,fun b c e z h=>⟨c,h,rfl⟩⟩
theorem Step.trans{N:Id->Prop}{g g' j:Gh}{w w' w'':World}{A A' m:Ids}(h:Step N g w A g' w' A')(hb:Boxes g w g')(d:Step N g' w' A' j w'' m):Step N g w A j w'' m:=by
 refine⟨d.os.trans h.os,d.tape.trans h.tape,d.output.trans h.output,cN h.size d.size,h.ext.trans d.ext,fun b n l ha=> ?_,fun a t=> ?_,fun a b ha s=> ?_,fun b c e z hb=> ?_⟩
 ·obtain⟨h1,k⟩:=h.keep b n l ha
  have o:b<w'.heap.size:=mI n h.size;obtain⟨x,u⟩:=d.keep b o (fun i hi=>by
   rcases hb.new i b hi with p|p
   ·exact l i p
   ·omega) (fun a y q=>by
    rcases h.org a b y q with p|⟨a0,p,C⟩
    ·omega
    ·exact ha a0 p C)
  exact⟨x.trans h1,u.trans k⟩
 ·by_cases h1:g'.row a=g.row a
  ·exact d.new a (by rw[h1];exact t)
  ·exact h.new a h1
 ·rcases d.org a b ha s with h1|⟨a0,h1,k⟩
  ·exact .inl (cN h.size h1)
  ·exact h.org a0 b h1 k
 ·obtain⟨c1,h1,k⟩:=h.arr b c e z hb
  obtain⟨c2,x,u⟩:=d.arr b c1 e z h1;exact⟨c2,x,u.trans k⟩
theorem Step.weaken{N N':Id->Prop}{g g':Gh}{w w':World}{A A':Ids}(h:Step N g w A g' w' A')(hn:∀a,N a->N' a):Step N' g w A g' w' A':=
 {h with new:=fun a ha=>hn a (h.new a ha)}
def qcY(g:Gh)(w:World)(r:List (Nat×AV))(b:Array Value):Prop:=∀t v,lk r t=some v->AVR fid g w v (b.getD t undef)
theorem qcY.mono{g g':Gh}{w w':World}(e:Ext g w g' w'){r:List (Nat×AV)}{b:Array Value}(h:qcY fid g w r b):qcY fid g' w' r b:=
 fun t v c=>(h t v c).mono fid e
end
section
def qT:Value->DV->Bool
 | .int k n,.int k' n'=>decide (k=k')&&decide (n=n')
 | .bool b,.bool c=>b==c
 | .string s,.str s'=>decide (s=s')
 | .slice none 0 0,.sl .nil []=>true
 |_,_=>false
def gF:List Value->List DV->Bool
 | [],[]=>true
 |u::us,v::vs=>qT u v&&gF us vs
 |_,_=>false
def wA:Value->DV->Bool
 | .agg us,.agg vs=>gF us.toList vs
 |u,v=>qT u v
variable (P:Program) (fid:Nat->FuncId)
def bB:Operand->VX->Bool
 | .tmp t,.t e=>t==e
 | .const (.pointer none),.c .nilp=>true
 | .const u,.c (.d v)=>wA u v
 | .func f,.c (.fn b [])=>f==fid b
 |_,_=>false
def kL:List Operand->List VX->Bool
 | [],[]=>true
 |o::os,x::xs=>bB fid o x&&kL os xs
 |_,_=>false
def ij:Option Operand->Option VX->Bool
 |none,none=>true
 |some o,some x=>bB fid o x
 |_,_=>false
def ni(t:TypeId):Option Bool:=
 (P.underlying t).map fun d=>match d with| .struct _| .array _ _=>true|_=>false
def eg(t:TypeId):Option Nat:=(P.info? t).map (·.size)
def vm(t:TypeId):Option Nat:=(P.info? t).map (·.bytes)
def tT(t:TypeId)(vs:List DV):Bool:=
 match (P.info? t).bind (·.zero)with
 |some z=>gF z.cells.toList vs
 |none=>false
def zeroV(t:TypeId)(v:DV):Bool:=
 match (P.info? t).bind (·.zero)with
 |some z=>wA z v
 |none=>false
def jK(t:TypeId):Option TypeId:=
 match P.underlying t with
 |some (.slice e)=>some e
 |_=>none
def Hq:Operand->Bool
 | .const (.slice none 0 0)=>true
 |_=>false
def lS(place:Nat->Option (Nat×Nat)):List (Nat×Operand)->List (Nat×Nat×VX)->Bool
 | [],[]=>true
 |(i,o)::r,(off,size,x)::b=>place i==some (off,size)&&bB fid o x&&lS place r b
 |_,_=>false
def oH:List (Nat×Operand)->List (Nat×VX)->Bool
 | [],[]=>true
 |(i,o)::r,(c,x)::b=>i==c&&bB fid o x&&oH r b
 |_,_=>false
def fieldsOf(t:TypeId):Option (Array Field):=
 match P.underlying t with
 |some (.struct fs)=>some fs
 |_=>none
def arrayOf(t:TypeId):Option (Nat×TypeId):=
 match P.underlying t with
 |some (.array n e)=>some (n,e)
 |_=>none
def oJ(t:TypeId):Bool:=match P.underlying t with|some .string=>true|_=>false
def xB(t:TypeId):Option IntKind:=match P.underlying t with|some (.int k)=>some k|_=>none
def isInt(t:TypeId):Bool:=match P.underlying t with|some (.int _)=>true|_=>false
def nX:Nat->List Field->List Nat->Bool
 |_,[],[]=>true
 |i,f::r,k::ks=>decide (f.offset=i)&&f.name != "_"&&
  (match P.underlying f.type with|some .bool=>decide (k=1)|some (.int _)=>decide (k=0)|some .string=>decide (k=2)|_=>false)&&nX (i+1) r ks
 |_,_,_=>false
def HI(t:TypeId):Option (Nat->Option (Nat×Nat)):=
 match P.underlying t with
 |some (.array _ e)=>(P.info? e).map fun b=>fun i=>some (i*b.size,b.size)
 |some (.struct fs)=>(fs.toList.mapM fun f=>(P.info? f.type).map fun i=>(f.offset,i.size)).map fun pl=>(pl.toArray[·]?)
 |_=>none
def aC:Op->VOp->Bool
 | .move x,.move y| .assign x,.move y=>bB fid x y
 | .pick c a b,.pick c' a' G=>bB fid c c'&&bB fid a a'&&bB fid b G
 | .alloc t,.alloc _ z=>tT P t z
 | .box _ x,.box _ y=>bB fid x y
 | .build t ps,.build z j=>tT P t z&&(match HI P t with|some pl=>lS fid pl ps.toList j|none=>false)
 | .buildSlice t n ps,.buildSlice sz z n' j=>decide (n=n')&&
  (match jK P t with
   |some e=>decide (eg P e=some sz)&&zeroV P e z&&oH fid ps.toList j
   |none=>false)
 | .load t a,.load agg sz x=>decide (ni P t=some agg)&&decide (eg P t=some sz)&&bB fid a x
 | .store t a v,.storeN sz x y _=>decide (eg P t=some sz)&&bB fid a x&&bB fid v y
 | .store t a v,.store _ sz x y=>decide (eg P t=some sz)&&bB fid a x&&bB fid v y
 | .nilCheck x,.nilCheck y=>bB fid x y
 | .binOp op t x y _,.bin F x' u=>decide (op=F)&&bB fid x x'&&bB fid y u&&
  (match P.underlying t with|some (.int _)|some .string=>true|_=>false)
 | .binOp op t x y _,.eqB neg x' u=>decide (op=if neg then .neq else .eql)&&bB fid x x'&&bB fid y u&&(match P.underlying t with|some .bool=>true|_=>false)
 | .binOp op t x y _,.eqNil neg x'=>decide (op=if neg then .neq else .eql)&&bB fid x x'&&Hq y&&(jK P t).isSome
 | .binOp op t x y _,.eqAgg neg ks x' u=>decide (op=if neg then .neq else .eql)&&bB fid x x'&&bB fid y u&&
  (match P.underlying t with
   |some (.struct fs)=>nX P 0 fs.toList ks&& !P.stoodInHeld t&& !P.eqGuardType P.depth t
   |_=>false)
 | .unOp .not _ x,.not y=>bB fid x y
 | .unOp .neg _ x,.bin op (.c (.d (.int _ n))) y=>decide (op= .sub)&&decide (n=0)&&bB fid x y
 | .convert src dst x,.conv (.kind k) y=>bB fid x y&&isInt P src&&decide (xB P dst=some k)
 | .convert src dst x,.conv .rune y=>bB fid x y&&isInt P src&&oJ P dst
 | .convert src dst x,.conv .bytes y=>bB fid x y&&oJ P dst&&(match jK P src with|some e=>decide (xB P e=some .u8)|none=>false)
 | .index t x i,.index x' p=>oJ P t&&bB fid x x'&&bB fid i p
 | .indexAddr t x i,.indexAddr sz none x' p=>bB fid x x'&&bB fid i p&&(match jK P t with|some e=>decide (eg P e=some sz)|none=>false)
 | .indexAddr t x i,.indexAddr sz (some m) x' p=>bB fid x x'&&bB fid i p&&(match arrayOf P t with|some (n,e)=>decide (n=m)&&decide (eg P e=some sz)|none=>false)
 | .fieldAddr t x f,.fieldAddr off x'=>bB fid x x'&&
  (match fieldsOf P t with
   |some fs=>(match fs[f]? with|some f=>decide (f.offset=off)&&(match eg P f.type with|some s=>decide (s≠0)|none=>false)|none=>false)
   |none=>false)
 | .slice t x lo hi none,.slice str sz x' D C=>bB fid x x'&&ij fid lo D&&ij fid hi C&&
  (match P.underlying t with
   |some .string=>str
   |some (.slice e)=> !str&&decide (eg P e=some sz)
   |_=>false)
 | .makeFunc (.func f) first caps,.makeFunc q o=>decide (first= #[])&&f==fid q&&kL fid caps.toList o
 | .makeSlice t l c,.makeSlice _ sz bytes z x=>bB fid l x&&bB fid c x&&
  (match jK P t with
   |some e=>decide (eg P e=some sz)&&decide (vm P e=some bytes)&&zeroV P e z
   |none=>false)
 | .extract x i,.extract x' p=>bB fid x x'&&decide (i=p)
 | .call {callee:= .value f,args,..},.call _ q h=>bB fid f q&&kL fid args.toList h
 | .call {callee:= .value f,args,..},.callS _ q h=>bB fid f q&&kL fid args.toList h
 | .load t a,.loadS agg sz x _=>decide (ni P t=some agg)&&decide (eg P t=some sz)&&bB fid a x
 | .call {callee:= .builtin .append,args,argTypes},.append sz bytes x y=>
  (match args.toList,argTypes.toList with
   | [a,b],[t,H]=>bB fid a x&&bB fid b y&&decide (t=H)&&(match jK P t with|some e=>decide (eg P e=some sz)&&decide (vm P e=some bytes)&&decide (0<sz)&&decide (0<bytes)&&((P.info? e).bind (·.zero)).any (fun z=>z.cells.size==sz)|none=>false)
   |_,_=>false)
 | .call {callee:= .builtin .len,args,argTypes},.len str x=>
  (match args.toList,argTypes.toList with
   | [a],[t]=>bB fid a x&&(match P.underlying t with|some .string=>str|some (.slice _)=> !str|_=>false)
   |_,_=>false)
 |_,.fail=>true
 |_,_=>false
def yu(ops:Array Oper):Option (Nat×Bool)->Option (Nat×Bool)->Bool
 |none,none=>true
 |some (j,w),some (t,w')=>w==w'&&((ops[j]?).bind (·.dst))==some t
 |_,_=>false
def gS(N:Nat)(ops:Array Oper)(o:Oper)(b:VOper):Bool:=
 o.dst==b.dst&&(match o.dst with|some d=>decide (d<N)|none=>true)&&aC P fid o.op b.op&&yu ops o.guard b.guard
def g_(o:Oper):List Nat:=(o.after.toList.filter (Region.binds .any)).map (·.on)
def dI(N:Nat)(ops:Array Oper)(draw:Bool):List Oper->List VOper->Bool
 | [],[]=>true
 |o::os,v::vs=>gS P fid N ops o v&&(!draw||(g_ o).all fun j=>v.after.contains j)&&(!draw||v.after.all fun j=>(g_ o).contains j)&&dI N ops draw os vs
 |_,_=>false
def DJ(N:Nat)(e d b:Oper)(i:VOper):Bool:=
 match i with
 |⟨some c,.append1 sz bytes x y h v t9,none,_⟩=>
  e.dst==some c&&d.dst==some t9&&b.dst==none&&decide (c<N)&&decide (t9<N)&&e.guard.isNone&&d.guard.isNone&&b.guard.isNone&&
   aC P fid e.op (.append sz bytes x y)&&aC P fid d.op (.indexAddr sz none (.t c) h)&&aC P fid b.op (.store false sz (.t t9) v)&&
   !(h.tmps.contains c)&& !(v.tmps.contains c)&& !(v.tmps.contains t9)&&decide (c≠t9)
 |_=>false
def fV(n K:Nat):Array Bool:=((List.range n).map fun i=>decide (i<K)).toArray
def qO(ops:Array Oper)(K:Nat):Bool:=
 decide (ops.size=K+6)&&Region.noSelect ops&&
 ((List.range 6).all fun m=>match ops[K+m]? with|some o=>o.guard.isNone&&(List.range K).all fun j=>(g_ o).contains j|none=>false)&&
 decide (Region.ready .any ops (fV ops.size K)=[K])&&
 Region.free .any ops ((fV ops.size K).setIfInBounds K true) (K+1)&&(Region.ready .any ops ((fV ops.size K).setIfInBounds K true)).contains (K+1)&&
 Region.free .any ops (((fV ops.size K).setIfInBounds K true).setIfInBounds (K+1) true) (K+3)&&(Region.ready .any ops (((fV ops.size K).setIfInBounds K true).setIfInBounds (K+1) true)).contains (K+3)&&
 Region.free .any ops ((((fV ops.size K).setIfInBounds K true).setIfInBounds (K+1) true).setIfInBounds (K+3) true) (K+4)&&(Region.ready .any ops ((((fV ops.size K).setIfInBounds K true).setIfInBounds (K+1) true).setIfInBounds (K+3) true)).contains (K+4)&&
 decide (Region.ready .any ops (((((fV ops.size K).setIfInBounds K true).setIfInBounds (K+1) true).setIfInBounds (K+3) true).setIfInBounds (K+4) true)=[K+2,K+5])&&
 decide (Region.ready .any ops ((((((fV ops.size K).setIfInBounds K true).setIfInBounds (K+1) true).setIfInBounds (K+3) true).setIfInBounds (K+4) true).setIfInBounds (K+2) true)=[K+5])&&
 decide (Region.ready .any ops ((((((fV ops.size K).setIfInBounds K true).setIfInBounds (K+1) true).setIfInBounds (K+3) true).setIfInBounds (K+4) true).setIfInBounds (K+5) true)=[K+2])&&
 decide (Region.ready .any ops (((((((fV ops.size K).setIfInBounds K true).setIfInBounds (K+1) true).setIfInBounds (K+3) true).setIfInBounds (K+4) true).setIfInBounds (K+2) true).setIfInBounds (K+5) true)=[])&&
 decide (Region.ready .any ops (((((((fV ops.size K).setIfInBounds K true).setIfInBounds (K+1) true).setIfInBounds (K+3) true).setIfInBounds (K+4) true).setIfInBounds (K+5) true).setIfInBounds (K+2) true)=[])&&
 (match ops[K+2]?,ops[K+3]?,ops[K+4]? with|some b,some d,some c=>d.apart ops b&&c.apart ops b|_,_,_=>false)
def Lp:List VOper->Bool
 | [⟨some c,.nilCheck (.t _),none,_⟩,⟨some b,.fieldAddr _ (.t y),none,_⟩,⟨none,.store false _ (.t z) _,none,_⟩]=>y==c&&z==b
 |_=>false
def bN(N:Nat):Code->VCode->Bool
 |c,.ghost _ c'=>bN N c c'
 | .skip,.skip=>true
 | .ret,.ret=>true
 | .exit i,.exit j=>i==j
 | .seq a b,.seq a' e=>bN N a a'&&bN N b e
 | .region _ ops draw,.region d _ _ vs=>draw==d&&dI P fid N ops draw ops.toList vs
 | .region _ ops draw,.regionF d _ _ fs=>draw==d&&dI P fid N ops draw ops.toList (gn fs)
 | .region _ ops true,.regionT _ _ pre (t::tl)=>
  dI P fid N ops true (ops.toList.take pre.length) pre&&dI P fid N ops false (ops.toList.drop (pre.length+3)) tl&&qO ops pre.length&&Lp tl&&
   (match ops[pre.length]?,ops[pre.length+1]?,ops[pre.length+2]? with
    |some a,some b,some c=>DJ P fid N a b c t
    |_,_,_=>false)
 | .cond x a b,.cond x' a' e=>bB fid x x'&&bN N a a'&&bN N b e
 | .block i c,.block j c'=>i==j&&bN N c c'
 | .loop c,.loop _ c'=>bN N c c'
 |_,_=>false
def gQ:List ResultVar->List VRes->Bool
 | [],[]=>true
 | .tmp t::r,.tmp c::b=>t==c&&gQ r b
 | .cell t ty::r,.cell c agg sz::b=>t==c&&decide (ni P ty=some agg)&&decide (eg P ty=some sz)&&gQ r b
 |_,_=>false
def aN(fn:Func)(vf:VFn):Bool:=
 (match fn.body with|some c=>bN P fid fn.ntmps c vf.code|none=>false)&&gQ P fn.results.toList vf.results&&decide (vf.np<=fn.ntmps)&& !(fn.name== "runtime.NumGoroutine")
end
section
variable {P:Program} {fid:Nat->FuncId} {g:Gh} {w:World}
theorem vg{u:Value}{v:DV}(h:qT u v=true):VR g w v u/\v.isCell=true:=by
 unfold qT at h;split at h
 ·simp at h;obtain⟨rfl,rfl⟩:=h;exact⟨.int _ _,rfl⟩
 ·simp at h;subst h;exact⟨.bool _,rfl⟩
 ·simp at h;subst h;exact⟨.str _,rfl⟩
 ·exact⟨.nil,rfl⟩
 ·simp at h
theorem yG:∀{us:List Value} {vs:List DV},gF us vs=true->us.length=vs.length
 | [],[],_=>rfl
 |u::us,v::vs,h=>by simp[gF]at h;simp[yG h.2]
 | [],_::_,h=>by simp[gF]at h
 |_::_,[],h=>by simp[gF]at h
theorem xb:∀{us:List Value} {vs:List DV},gF us vs=true->∀(j:Nat) (v:DV) (u:Value),vs[j]?=some v->us[j]?=some u->qT u v=true
 | [],[],_,j,v,u,h1,_=>by simp at h1
 |u::us,v::vs,h,j,v',c,h1,b=>by
  simp[gF]at h;cases j with
  |zero=>simp at h1 b;subst h1;subst b;exact h.1
  |succ j=>simp at h1 b;exact xb h.2 j v' c h1 b
 | [],_::_,h,_,_,_,_,_=>by simp[gF]at h
 |_::_,[],h,_,_,_,_,_=>by simp[gF]at h
theorem GB{us:List Value}{vs:List DV}(h:gF us vs=true)(v:DV)(b:v∈vs):v.isCell=true:=by
 obtain⟨j,hj⟩:=c9.1 b;have d:=yG h;have c:j<vs.length:=(aK.1 hj).1;exact(vg (g:=⟨fun _=>0,fun _=>none,fun _=>none⟩) (w:=default) (xb h j v (us[j]'(by omega)) hj (by simp))).2
theorem F4{u:Value}{v:DV}(h:wA u v=true):VR g w v u:=by
 unfold wA at h;split at h
 ·rename_i us vs
  refine .agg _ _ (by simpa using yG h) (fun v b=>GB h v b) fun j v u h1 c=>(vg (xb h j v u h1 (by simpa using c))).1
 ·exact(vg h).1
theorem bq{a:Act}{r:List (Nat×AV)}(hr:qcY fid g w r a.tmps){o:Operand}{x:VX}{v:AV}(h:bB fid o x=true)(b:x.get r=some v):AVR fid g w v (a.eval o):=by
 unfold bB at h;split at h
 ·simp at h;subst h;exact hr _ _ b
 ·simp[VX.get]at b;subst b;exact .nilp
 ·simp[VX.get]at b;subst b;exact .d _ _ (F4 h)
 ·simp at h
  simp[VX.get]at b;subst b;subst h
  exact .fn _ _ _ rfl (by simp)
 ·simp at h
theorem p9{a:Act}{r:List (Nat×AV)}(hr:qcY fid g w r a.tmps):∀{os:List Operand} {xs:List VX} {vs:List AV},kL fid os xs=true->cO r xs=some vs->
 vs.length=os.length/\∀(j:Nat) (v:AV) (o:Operand),vs[j]?=some v->os[j]?=some o->AVR fid g w v (a.eval o)
 | [],[],vs,_,h=>by simp[cO]at h;subst h;simp
 |o::os,x::xs,vs,h,d=>by
  simp[kL]at h;simp only[cO]at d;obtain⟨v,h1,e⟩:=aw.1 d;obtain⟨n,m,rfl⟩:=au.1 e;obtain⟨k,l⟩:=p9 hr h.2 m;refine⟨by simp[k],fun j v' i c b=> ?_⟩;cases j with
  |zero=>simp at c b;subst c;subst b;exact bq hr h.1 h1
  |succ j=>simp at c b;exact l j v' i c b
 | [],_::_,_,h,_=>by simp[kL]at h
 |_::_,[],_,h,_=>by simp[kL]at h
theorem cX{v:DV}{u:Value}(h:AVR fid g w (.d v) u):VR g w v u:=by cases h with|d _ _ h=>exact h
theorem fh{i off:Nat}{u:Value}(h:AVR fid g w (.ptr i off) u):∃b,g.bx i=some b/\u= .pointer (some ⟨b,off,none⟩):=by
 cases h with|ptr _ _ b h=>exact⟨b,h,rfl⟩
theorem ek{k:IntKind}{n:Int}{u:Value}(h:AVR fid g w (.d (.int k n)) u):u= .int k n:=by
 cases cX h;rfl
theorem ja{b:Bool}{u:Value}(h:AVR fid g w (ar b) u):u= .bool b:=by
 cases cX h;rfl
theorem pW{s:ByteArray}{u:Value}(h:AVR fid g w (.d (.str s)) u):u= .string s:=by
 cases cX h;rfl
theorem j6{v:DV}{u:Value}(h:VR g w v u)(hc:v.isCell=true):u.oneCell'=true/\u.cells= #[u]/\v.cells=[v]:=by
 cases h<;>simp_all[DV.isCell,Value.oneCell',Value.cells,DV.cells]
theorem Af{v:DV}{u:Value}(h:VR g w v u)(hc:∀c,c∈v.cells->c.isCell=true):
 u.cells.size=v.cells.length/\(∀(j:Nat) (c:DV) (x:Value),v.cells[j]?=some c->u.cells[j]?=some x->VR g w c x)/\(∀x,x∈u.cells.toList->x.oneCell'=true):=by
 cases h with
 |agg cs us hs d l=>
  refine⟨hs,l,fun x hx=> ?_⟩;obtain⟨j,hj⟩:=c9.1 hx;simp[Value.cells]at hj;have p:j<us.size:=(dD.1 hj).1;have m:j<cs.length:=by omega
  exact(j6 (l j cs[j] x (by simp) hj) (d _ (by simp))).1
 |tup cs us hs l=>exact absurd (hc (.tup cs) (by simp[DV.cells])) (by simp[DV.isCell])
 |int k n=>exact⟨rfl,fun j c x h1 e=>by cases j<;>simp[DV.cells,Value.cells]at h1 e;subst h1;subst e;exact .int _ _,by simp[Value.cells,Value.oneCell']⟩
 |bool b=>exact⟨rfl,fun j c x h1 e=>by cases j<;>simp[DV.cells,Value.cells]at h1 e;subst h1;subst e;exact .bool _,by simp[Value.cells,Value.oneCell']⟩
 |str s=>exact⟨rfl,fun j c x h1 e=>by cases j<;>simp[DV.cells,Value.cells]at h1 e;subst h1;subst e;exact .str _,by simp[Value.cells,Value.oneCell']⟩
 |nil=>exact⟨rfl,fun j c x h1 e=>by cases j<;>simp[DV.cells,Value.cells]at h1 e;subst h1;subst e;exact .nil,by simp[Value.cells,Value.oneCell']⟩
 |row t xs ad c s U o m hm d q hcs l i=>
  exact⟨rfl,fun j c x h1 e=>by cases j<;>simp[DV.cells,Value.cells]at h1 e;subst h1;subst e;exact .row t xs ad _ s U o m hm d q hcs l i,by simp[Value.cells,Value.oneCell']⟩
theorem SL{agg:Bool}{sz:Nat}{cs:List DV}{v:DV}(hc:cut agg sz cs=some v)(ad:Addr)(U:Nat->Value)
 (h:∀(j:Nat) (c:DV),cs[j]?=some c->w.cell? (ad.add j)=some (U j)/\c.isCell=true/\VR g w c (U j)):
 ∃u,VR g w v u/\(agg=true->u= .agg ((List.range sz).map U).toArray/\∀j,j<sz->w.cell? (ad.add j)=some (U j))/\(agg=false->u=U 0/\w.cell? (ad.add 0)=some (U 0)):=by
 unfold cut at hc;cases agg with
 |true=>
  simp at hc;obtain⟨i,rfl⟩:=hc;refine⟨.agg ((List.range sz).map U).toArray,?_,fun _=>⟨rfl,fun j hj=>(h j cs[j] (by simp)).1⟩,by simp⟩;refine .agg _ _ (by simp;omega) (fun v e=> ?_) (fun j v u h1 d=> ?_)
  ·obtain⟨j,hj⟩:=c9.1 e
   rw[ew]at hj;split at hj
   ·exact(h j v hj).2.1
   ·simp at hj
  ·rw[ew]at h1
   split at h1
   ·rename_i b
    have:=(h j v h1).2.2;simp[b]at d;rw[<-d];exact this
   ·simp at h1
 |false=>
  simp at hc;have:=h 0 v hc;exact⟨U 0,this.2.2,by simp,fun _=>⟨rfl,this.1⟩⟩
end
section
variable {P:Program} {fid:Nat->FuncId} {g:Gh} {w:World}
def Yields(P:Program)(fid:Nat->FuncId)(g:Gh)(w:World)(a:Act)(o:Oper)(v:AV):Prop:=
 ∃u,(execOp a.eval o).run P w= .ok (.value u) w/\AVR fid g w v u
section
variable {a:Act} {r:List (Nat×AV)} (hr:qcY fid g w r a.tmps)
include hr
theorem Pn{o:Oper}{x:VX}{v:AV}(h:aC P fid o.op (.move x)=true)(b:x.get r=some v):Yields P fid g w a o v:=by
 obtain⟨dst,op,ty,pos,after,guard⟩:=o;cases op with
 |move y=>exact⟨_,rfl,bq hr (by simpa[aC]using h) b⟩
 |assign y=>exact⟨_,rfl,bq hr (by simpa[aC]using h) b⟩
 |_=>simp[aC]at h
theorem qOV{o:Oper}{c x y:VX}{v:AV}(h:aC P fid o.op (.pick c x y)=true)(b:aA r (.pick c x y)=some v):Yields P fid g w a o v:=by
 obtain⟨dst,op,ty,pos,after,guard⟩:=o;cases op with
 |pick c' x' d=>
  simp[aC]at h;simp only[aA]at b;split at b
  ·rename_i hc
   have:=ja (bq hr h.1.1 hc);refine⟨_,?_,bq hr h.1.2 b⟩;simp[execOp,this,asBool]
  ·rename_i hc
   have:=ja (bq hr h.1.1 hc);refine⟨_,?_,bq hr h.2 b⟩;simp[execOp,this,asBool]
  ·simp at b
 |_=>simp[aC]at h
theorem Il{o:Oper}{x:VX}{v:AV}(h:aC P fid o.op (.nilCheck x)=true)(b:aA r (.nilCheck x)=some v):Yields P fid g w a o v:=by
 obtain⟨dst,op,ty,pos,after,guard⟩:=o;cases op with
 |nilCheck y=>
  simp[aC]at h;simp only[aA]at b;split at b
  all_goals (try (simp at b;done))
  all_goals
   rename_i hx;simp at b;subst b;have c:=bq hr h hx;refine⟨_,?_,c⟩;generalize d:a.eval y=q at c;cases c<;>simp_all[execOp]
 |_=>simp[aC]at h
theorem Pb{o:Oper}{x:VX}{v:AV}(h:aC P fid o.op (.not x)=true)(c:aA r (.not x)=some v):Yields P fid g w a o v:=by
 obtain⟨dst,op,ty,pos,after,guard⟩:=o;cases op with
 |unOp u t y=>
  cases u with
  |not=>
   simp[aC]at h;simp only[aA]at c;split at c
   ·rename_i b hx
    simp at c;subst c
    have:=ja (bq hr h hx);exact⟨.bool !b,by simp[execOp,this,Op.unary],.d _ _ (.bool _)⟩
   ·simp at c
  |_=>simp[aC]at h
 |_=>simp[aC]at h
theorem qw1{o:Oper}{f:Nat}{cs:List VX}{v:AV}(h:aC P fid o.op (.makeFunc f cs)=true)(b:aA r (.makeFunc f cs)=some v):Yields P fid g w a o v:=by
 obtain⟨dst,op,ty,pos,after,guard⟩:=o;cases op with
 |makeFunc fn first caps=>
  cases fn with
  |func p=>
   simp[aC]at h;obtain⟨⟨rfl,rfl⟩,l⟩:=h;simp only[aA]at b;obtain⟨vs,e,rfl⟩:=au.1 b;obtain⟨k,d⟩:=p9 hr l e;refine⟨.func (.func (fid f)) #[] (caps.map a.eval),by simp[execOp,Instr.makeFunc],.fn _ _ _ (by simpa using k.symm) fun j v u i c=> ?_⟩;simp at c;obtain⟨m,n,rfl⟩:=c;exact d j v m i (by simpa using n)
  |_=>simp[aC]at h
 |_=>simp[aC]at h
theorem Za{o:Oper}{x:VX}{i:Nat}{v:AV}(h:aC P fid o.op (.extract x i)=true)(e:aA r (.extract x i)=some v):Yields P fid g w a o v:=by
 obtain⟨dst,op,ty,pos,after,guard⟩:=o;cases op with
 |extract y j=>
  simp[aC]at h;obtain⟨h1,rfl⟩:=h;simp only[aA]at e;split at e
  ·rename_i vs hx
   obtain⟨d,m,rfl⟩:=au.1 e;have k:=cX (bq hr h1 hx);generalize l:a.eval y=q at k;cases k with
   |tup _ us hs c=>
    have b:j<us.size:=by have:=(aK.1 m).1;omega
    exact⟨us[j],by simp[execOp,l,Instr.extract,b],.d _ _ (c j d _ m (by simp[b]))⟩
  ·rename_i vs hx
   have k:=bq (w:=w) hr h1 hx;generalize l:a.eval y=q at k;cases k with
   |tp _ us hs c=>
    have b:j<us.size:=by have:=(aK.1 e).1;omega
    exact⟨us[j],by simp[execOp,l,Instr.extract,b],c j v _ e (by simp[b])⟩
  ·simp at e
 |_=>simp[aC]at h
theorem Ki{o:Oper}{x:VX}{off:Nat}{v:AV}(h:aC P fid o.op (.fieldAddr off x)=true)(i:aA r (.fieldAddr off x)=some v):Yields P fid g w a o v:=by
 obtain⟨dst,op,ty,pos,after,guard⟩:=o;cases op with
 |fieldAddr t y f=>
  simp only[aC,aF]at h;obtain⟨h1,k⟩:=h;split at k
  ·rename_i fs c
   split at k
   ·rename_i fd D
    simp only[aF,ba]at k;obtain⟨rfl,p⟩:=k;split at p
    ·rename_i sz hsz
     simp at p;have F:P.underlying t=some (.struct fs):=by
      unfold fieldsOf at c;split at c
      ·rename_i s;simp at c;subst c;exact s
      ·simp at c
     obtain⟨l,u,m⟩:∃l,P.info? fd.type=some l/\l.size=sz:=by
      unfold eg at hsz;obtain⟨l,G,C⟩:=au.1 hsz;exact⟨l,G,C⟩
     have d:∀ad:Addr,a.eval y= .pointer (some ad)->(execOp a.eval ⟨dst,.fieldAddr t y f,ty,pos,after,guard⟩).run P w= .ok (.value (.pointer (some (ad.add fd.offset)))) w:=by
      intro ad z;simp[execOp,Instr.fieldAt,underlying,F,D,Instr.sureAddr,z,fieldPlace,sizeOf,typeInfo,u,m,p]
     simp only[aA]at i;split at i
     ·rename_i b o hx
      simp at i;subst i
      obtain⟨blk,hb,he⟩:=fh (bq hr h1 hx);refine⟨_,d _ he,?_⟩;have:(⟨blk,o,none⟩:Addr).add fd.offset=⟨blk,o+fd.offset,none⟩:=by unfold Addr.add;split<;>simp_all
      rw[this];exact .ptr _ _ _ hb
     ·rename_i cs hx
      simp at i;obtain⟨hlen,rfl⟩:=i;have n:=bq hr h1 hx;generalize s:a.eval y=q at n;cases n with
      |ep _ ad U hs H hc=>
       ·refine⟨_,d _ s,.ep _ _ (fun j=>U (fd.offset+j)) ?_ ?_ fun j v hj=> ?_⟩
        ·unfold Addr.add;split<;>simp_all
        ·rw[mi,add_block];simp;omega
        ·rw[gk]at hj
         have:=hc _ _ hj;have e:(ad.add fd.offset).add j=ad.add (fd.offset+j):=by
          unfold Addr.add;split<;>split<;>split<;>simp_all<;>omega
         rw[e];exact this
     ·simp at i
    ·simp at p
   ·simp at k
  ·simp at k
 |_=>simp[aC]at h
omit hr in
theorem add_add(ad:Addr)(i j:Nat)(h:ad.spot=none):(ad.add i).add j=ad.add (i+j):=by
 unfold Addr.add;split<;>split<;>split<;>simp_all<;>omega
theorem Z9{o:Oper}{sz:Nat}{x i:VX}{v:AV}(h:aC P fid o.op (.indexAddr sz none x i)=true)(d:aA r (.indexAddr sz none x i)=some v):Yields P fid g w a o v:=by
 obtain⟨dst,op,ty,pos,after,guard⟩:=o;cases op with
 |indexAddr t y j=>
  simp only[aC,aF]at h;obtain⟨⟨h1,K⟩,I⟩:=h;split at I
  ·rename_i e he
   simp at I;have M:P.underlying t=some (.slice e):=by
    unfold jK at he;split at he
    ·rename_i C;simp at he;subst he;exact C
    ·simp at he
   obtain⟨H,D,hsz⟩:∃H,P.info? e=some H/\H.size=sz:=by
    unfold eg at I;obtain⟨H,W,V⟩:=au.1 I;exact⟨H,W,V⟩
   simp only[aA]at d;split at d
   ·rename_i Z xs k n hx hi
    split at d
    ·rename_i hn
     obtain⟨el,z,d⟩:=aw.1 d;split at d
     ·rename_i hlen
      obtain⟨hlen,hz⟩:=hlen;simp at d;subst d
      have l:=cX (bq hr h1 hx);have u:=ek (bq hr K hi);have G:n.toNat<xs.length:=(aK.1 z).1;generalize C:a.eval y=q at l;cases l with
      |nil=>simp at G
      |row _ _ ad c s U Y hl hm p hK hcs hvs N=>
       have hs:s=sz:=by have:=(hcs _ _ z).1;omega
       subst hs;have hsp:ad.spot=none:=by
        have:=p 0 (Nat.mul_pos (by omega) (by omega));unfold World.cell? Addr.add at this;simp at this;split at this
        ·split at this
         ·simp at this
         ·rename_i hh;simpa using hh
        ·simp at this
       have O:n<(xs.length:Int):=by omega
       refine⟨.pointer (some (ad.add (n.toNat*s))),?_,?_⟩
       ·simp[execOp,Instr.indexAt,C,u,asIntOf,underlying,M,sizeOf,typeInfo,D,hsz]
        simp[hn];intro hh;omega
       ·refine .ep _ _ (fun j=>U (n.toNat*s+j)) ?_ ?_ fun j v hj=> ?_
        ·unfold Addr.add;split<;>simp_all
        ·rw[mi,add_block]
         have:n.toNat*s+s<=xs.length*s:=by have:=fb s (show n.toNat+1<=xs.length by omega);rw[c_]at this;omega
         omega
        ·have X:j<s:=by have:=(aK.1 hj).1;omega
         have J:n.toNat*s+j<xs.length*s:=by have:=fb s (show n.toNat+1<=xs.length by omega);rw[c_]at this;omega
         rw[add_add _ _ _ hsp];exact⟨p _ J,(hcs _ _ z).2 v (bU hj),hvs _ _ _ _ z hj⟩
     ·simp at d
    ·simp at d
   ·rename_i id ag b m n R F hx hi
    split at d
    ·rename_i hc
     obtain⟨rfl,hn,G⟩:=hc;simp at d;subst d
     have l:=bq hr h1 hx;have u:=ek (bq hr K hi);generalize C:a.eval y=q at l;cases l with
     |bsl _ _ _ _ _ blk hb=>
      refine⟨.pointer (some ((⟨blk,0,none⟩:Addr).add (F.toNat*m))),?_,?_⟩
      ·simp[execOp,Instr.indexAt,C,u,asIntOf,underlying,M,sizeOf,typeInfo,D,hsz]
       simp[hn];intro hh;omega
      ·have:(⟨blk,0,none⟩:Addr).add (F.toNat*m)=⟨blk,F.toNat*m,none⟩:=by unfold Addr.add;split<;>simp_all
       rw[this];exact .ptr _ _ _ hb
    ·simp at d
   ·rename_i ag b m n R F hx hi
    split at d
    ·rename_i hc
     obtain⟨rfl,hn,G⟩:=hc;simp at d;subst d
     have l:=bq (w:=w) hr h1 hx;have u:=ek (bq hr K hi);generalize C:a.eval y=q at l;cases l with
     |tsl _ _ _ _ cc blk hb Q S=>
      refine⟨.pointer (some ((⟨blk,0,none⟩:Addr).add (F.toNat*m))),?_,?_⟩
      ·simp[execOp,Instr.indexAt,C,u,asIntOf,underlying,M,sizeOf,typeInfo,D,hsz]
       simp[hn];intro hh;omega
      ·have:(⟨blk,0,none⟩:Addr).add (F.toNat*m)=⟨blk,F.toNat*m,none⟩:=by unfold Addr.add;split<;>simp_all
       rw[this];exact .ptr _ _ _ hb
    ·simp at d
   ·simp at d
  ·simp at I
 |_=>simp[aC]at h
theorem WW{o:Oper}{sz m:Nat}{x i:VX}{v:AV}(h:aC P fid o.op (.indexAddr sz (some m) x i)=true)(c:aA r (.indexAddr sz (some m) x i)=some v):Yields P fid g w a o v:=by
 obtain⟨dst,op,ty,pos,after,guard⟩:=o;cases op with
 |indexAddr t y j=>
  simp only[aC,aF]at h;obtain⟨⟨h1,H⟩,l⟩:=h;split at l
  ·rename_i n e he
   simp at l;obtain⟨rfl,l⟩:=l;have J:P.underlying t=some (.array n e):=by
    unfold arrayOf at he;split at he
    ·rename_i u;simp at he;obtain⟨rfl,rfl⟩:=he;exact u
    ·simp at he
   obtain⟨p,z,hsz⟩:∃p,P.info? e=some p/\p.size=sz:=by
    unfold eg at l;obtain⟨p,F,D⟩:=au.1 l;exact⟨p,F,D⟩
   have d:∀(ad:Addr) (k:IntKind) (q:Int),a.eval y= .pointer (some ad)->a.eval j= .int k q->0<=q->q<(n:Int)->
    (execOp a.eval ⟨dst,.indexAddr t y j,ty,pos,after,guard⟩).run P w= .ok (.value (.pointer (some (ad.add (q.toNat*sz))))) w:=by
    intro ad k q F D I K;simp[execOp,Instr.indexAt,F,D,asIntOf,underlying,J,sizeOf,typeInfo,z,hsz,Instr.sureAddr];simp[I];intro hh;omega
   simp only[aA]at c;split at c
   ·rename_i b off k q hx hi
    split at c
    ·rename_i hc
     simp at c;subst c
     obtain⟨blk,hb,C⟩:=fh (bq hr h1 hx);refine⟨_,d _ _ _ C (ek (bq hr H hi)) hc.1 hc.2,?_⟩;have:(⟨blk,off,none⟩:Addr).add (q.toNat*sz)=⟨blk,off+q.toNat*sz,none⟩:=by unfold Addr.add;split<;>simp_all
     rw[this];exact .ptr _ _ _ hb
    ·simp at c
   ·rename_i cs k q hx hi
    split at c
    ·rename_i hc
     simp at c;subst c
     have s:=bq hr h1 hx;generalize u:a.eval y=qq at s;cases s with
     |ep _ ad U hs M G=>
      refine⟨_,d _ _ _ u (ek (bq hr H hi)) hc.1 hc.2.1,.ep _ _ (fun j=>U (q.toNat*sz+j)) ?_ ?_ fun j v hj=> ?_⟩
      ·unfold Addr.add;split<;>simp_all
      ·rw[mi,add_block];simp;omega
      ·rw[gk]at hj
       rw[add_add _ _ _ hs];exact G _ _ hj
    ·simp at c
   ·simp at c
  ·simp at l
 |_=>simp[aC]at h
theorem SP{o:Oper}{str:Bool}{x:VX}{v:AV}(h:aC P fid o.op (.len str x)=true)(j:aA r (.len str x)=some v):Yields P fid g w a o v:=by
 obtain⟨dst,op,ty,pos,after,guard⟩:=o;cases op with
 |call c=>
  obtain⟨callee,args,argTypes⟩:=c;cases callee with
  |builtin b=>
   cases b with
   |len=>
    simp only[aC]at h;split at h
    ·rename_i y t ha z
     simp only[aF]at h;obtain⟨h1,k⟩:=h;have l:args= #[y]:=by cases args;simp_all
     have p:argTypes= #[t]:=by cases argTypes;simp_all
     subst l;subst p
     have u:=fun v hx=>bq (w:=w) hr h1 (v:=v) hx
     cases str with
     |true=>
      simp only[aA]at j;split at j
      ·rename_i s hx
       simp at j;subst j
       have:=pW (u _ hx);refine⟨.int .i64 s.size,?_,.d _ _ (.int _ _)⟩;split at k
       ·rename_i hd;simp[execOp,resolve,invoke,builtin,Builtin.len_,this,underlying,hd,goInt]
       ·simp at k
       ·simp at k
      ·simp at j
     |false=>
      simp only[aA]at j;split at j
      ·rename_i C xs hx
       simp at j;subst j
       have hh:=cX (u _ hx);generalize m:a.eval y=q at hh;refine⟨.int .i64 xs.length,?_,.d _ _ (.int _ _)⟩;split at k
       ·simp at k
       ·rename_i e hd
        cases hh<;>simp[execOp,resolve,invoke,builtin,Builtin.len_,m,underlying,hd,goInt]
       ·simp at k
      ·rename_i id ag i sz n hx
       simp at j;subst j
       have hh:=u _ hx;generalize m:a.eval y=q at hh;refine⟨.int .i64 n,?_,.d _ _ (.int _ _)⟩;split at k
       ·simp at k
       ·rename_i e hd
        cases hh<;>simp[execOp,resolve,invoke,builtin,Builtin.len_,m,underlying,hd,goInt]
       ·simp at k
      ·rename_i ag i sz n hx
       simp at j;subst j
       have hh:=u _ hx;generalize m:a.eval y=q at hh;refine⟨.int .i64 n,?_,.d _ _ (.int _ _)⟩;split at k
       ·simp at k
       ·rename_i e hd
        cases hh<;>simp[execOp,resolve,invoke,builtin,Builtin.len_,m,underlying,hd,goInt]
       ·simp at k
      ·simp at j
    ·simp at h
   |_=>simp[aC]at h
  |_=>simp[aC]at h
 |_=>simp[aC]at h
theorem Oo{o:Oper}{b:BinOp}{x y:VX}{v:AV}(h:aC P fid o.op (.bin b x y)=true)(e:aA r (.bin b x y)=some v):Yields P fid g w a o v:=by
 obtain⟨dst,op,ty,pos,after,guard⟩:=o;cases op with
 |unOp u t z=>
  cases u with
  |neg=>
   cases x with
   |t n=>simp[aC]at h
   |c M=>
    cases M with
    |d K=>
     cases K with
     |int k n=>
      simp only[aC,aF,ba]at h;obtain⟨⟨rfl,rfl⟩,h1⟩:=h;simp only[aA,VX.get]at e;split at e
      ·rename_i G q hx hy
       simp at hx;subst hx
       obtain⟨d,hd,rfl⟩:=au.1 e;have C:=bq (w:=w) hr h1 hy;cases q with
       |int k' n=>
        have i:=ek C;simp only[eR]at hd;split at hd
        ·rename_i D
         subst D;simp only[cR,aB]at hd;subst hd;exact⟨_,by simp[execOp,i,Op.unary,Op.intArith],.d _ _ (.int _ _)⟩
        ·simp at hd
       |_=>simp[eR]at hd
      ·simp at e
     |_=>simp[aC]at h
    |_=>simp[aC]at h
  |_=>simp[aC]at h
 |binOp j t x' p J=>
  simp only[aC,aF,ba]at h;obtain⟨⟨⟨rfl,h1⟩,I⟩,N⟩:=h;simp only[aA]at e;split at e
  ·rename_i G q hx hy
   obtain⟨d,hd,rfl⟩:=au.1 e;have H:=bq (w:=w) hr h1 hx;have C:=bq (w:=w) hr I hy;cases G with
   |int k m=>
    cases q with
    |int k' n=>
     have l:=ek H;have i:=ek C;have F:(eqGuard j t x' p (a.eval x') (a.eval p)).run P w= .ok () w:=by
      rw[l,i];unfold eqGuard;split<;>simp
     cases j<;>simp only[eR]at hd
     all_goals (first
      |(split at hd<;>first|(simp at hd;done)|skip)
      |skip)
     all_goals (try (rename_i D;subst D))
     all_goals (simp only[cR,cmp,bits,bz]at hd)
     all_goals (try (split at hd))
     all_goals (try (simp at hd;done))
     all_goals (simp only[aB]at hd;subst hd)
     all_goals (refine⟨_,?_,.d _ _ (by constructor)⟩)
     all_goals (simp_all[execOp,binOp,Op.shift,Op.intArith,Op.intDiv,Op.intBits,Op.intCmp])
     all_goals (intro hh;omega)
    |_=>cases j<;>simp[eR]at hd
   |str s=>
    cases q with
    |str s'=>
     have l:=pW H;have i:=pW C;have F:(eqGuard j t x' p (a.eval x') (a.eval p)).run P w= .ok () w:=by
      rw[l,i];unfold eqGuard;split<;>simp
     cases j<;>simp only[eR]at hd
     all_goals (try (simp at hd;done))
     ·split at hd
      ·rename_i hlen
       simp only[aB]at hd;subst hd
       refine⟨_,?_,.d _ _ (by constructor)⟩;have:¬(((s.size+s'.size:Nat):Int)>IntKind.i64.max):=by
        have:IntKind.i64.max=9223372036854775807:=by decide
        omega
       rw[l,i]at F;have hle:¬(9223372036854775807<(s.size:Int)+(s'.size:Int)):=by omega
       simp[execOp,binOp,Op.stringOp,l,i,F,hle,IntKind.max,IntKind.signed,IntKind.bits]
      ·simp at hd
     all_goals (simp only[aB]at hd;subst hd)
     all_goals (refine⟨_,?_,.d _ _ (by constructor)⟩)
     all_goals (simp_all[execOp,binOp,Op.stringOp,fC])
    |_=>simp[eR]at hd
   |_=>simp[eR]at hd
  ·simp at e
 |_=>simp[aC]at h
end
end
section
variable {P:Program} {fid:Nat->FuncId} {g:Gh} {w:World}
theorem Ve{t:TypeId}(c:P.underlying t=some .bool)(a b:Bool):(Op.equal t (.bool a) (.bool b)).run P w= .ok (a==b) w:=by
 have e:Op.equal t (.bool a) (.bool b)=Op.equalIn (9999+1) t (.bool a) (.bool b):=rfl;rw[e,Op.equalIn];simp[underlying,c]
theorem J7{t e:TypeId}(b:P.underlying t=some (.slice e))(a:Option Addr)(n c:Nat):(Op.equal t (.slice a n c) (.slice none 0 0)).run P w= .ok a.isNone w:=by
 have e:Op.equal t (.slice a n c) (.slice none 0 0)=Op.equalIn (9999+1) t (.slice a n c) (.slice none 0 0):=rfl;rw[e,Op.equalIn];cases a<;>simp[underlying,b]
section
variable {a:Act} {r:List (Nat×AV)} (hr:qcY fid g w r a.tmps)
include hr
theorem qUr{o:Oper}{neg:Bool}{x y:VX}{v:AV}(h:aC P fid o.op (.eqB neg x y)=true)(b:aA r (.eqB neg x y)=some v):Yields P fid g w a o v:=by
 obtain⟨dst,op,ty,pos,after,guard⟩:=o;cases op with
 |binOp e t x' m s=>
  simp only[aC,aF,ba]at h;obtain⟨⟨⟨hb,h1⟩,i⟩,c⟩:=h;split at c
  ·rename_i p
   simp only[aA]at b;split at b
   ·rename_i j q hx hy
    simp at b;subst b
    have n:=ja (bq (w:=w) hr h1 hx);have k:=ja (bq (w:=w) hr i hy);have l:(eqGuard e t x' m (.bool j) (.bool q)).run P w= .ok () w:=by unfold eqGuard;split<;>simp
    refine⟨_,?_,.d _ _ (.bool _)⟩;cases neg<;>simp at hb<;>subst hb<;>simp[execOp,n,k,l,binOp,Ve p]
   ·simp at b
  ·simp at c
 |_=>simp[aC]at h
theorem NX{o:Oper}{neg:Bool}{x:VX}{v:AV}(h:aC P fid o.op (.eqNil neg x)=true)(b:aA r (.eqNil neg x)=some v):Yields P fid g w a o v:=by
 obtain⟨dst,op,ty,pos,after,guard⟩:=o;cases op with
 |binOp u t x' k y=>
  simp only[aC,aF,ba]at h;obtain⟨⟨⟨hb,h1⟩,j⟩,z⟩:=h;have hy:a.eval k= .slice none 0 0:=by
   unfold Hq at j;split at j
   ·rfl
   ·simp at j
  obtain⟨e,he⟩:=mt.1 z;have l:P.underlying t=some (.slice e):=by
   unfold jK at he;split at he
   ·rename_i i;simp at he;subst he;exact i
   ·simp at he
  simp only[aA]at b;split at b
  ·rename_i C xs hx
   simp at b;subst b
   have hh:=cX (bq (w:=w) hr h1 hx);generalize i:a.eval x'=q at hh;have m:∀ad n c,(eqGuard u t x' k (.slice ad n c) (.slice none 0 0)).run P w= .ok () w:=by intro ad n c;unfold eqGuard;split<;>simp
   refine⟨_,?_,.d _ _ (.bool _)⟩;cases hh with
   |nil=>cases neg<;>simp at hb<;>subst hb<;>simp[execOp,i,hy,m,binOp,J7 l]
   |row _ _ ad c s U p=>cases neg<;>simp at hb<;>subst hb<;>simp[execOp,i,hy,m,binOp,J7 l,p]
  ·simp at b
 |_=>simp[aC]at h
theorem Zf{o:Oper}{k:IntKind}{x:VX}{v:AV}(h:aC P fid o.op (.conv (.kind k) x)=true)(b:aA r (.conv (.kind k) x)=some v):Yields P fid g w a o v:=by
 obtain⟨dst,op,ty,pos,after,guard⟩:=o;cases op with
 |convert src e y=>
  simp only[aC,aF,ba]at h;obtain⟨⟨h1,j⟩,c⟩:=h;have hd:P.underlying e=some (.int k):=by
   unfold xB at c;split at c
   ·rename_i l;simp at c;subst c;exact l
   ·simp at c
  obtain⟨i,hs⟩:∃i,P.underlying src=some (.int i):=by
   unfold isInt at j;split at j
   ·rename_i i l;exact⟨i,l⟩
   ·simp at j
  simp only[aA]at b;split at b
  ·rename_i p n hx
   simp at b;subst b
   have m:=ek (bq (w:=w) hr h1 hx);refine⟨_,?_,.d _ _ (.int _ _)⟩;simp[execOp,convert,m,underlying,hd,hs,Conv.intToInt]
  ·simp at b
 |_=>simp[aC]at h
theorem qOU{o:Oper}{x:VX}{v:AV}(h:aC P fid o.op (.conv .rune x)=true)(b:aA r (.conv .rune x)=some v):Yields P fid g w a o v:=by
 obtain⟨dst,op,ty,pos,after,guard⟩:=o;cases op with
 |convert src c y=>
  simp only[aC,aF]at h;obtain⟨⟨h1,i⟩,k⟩:=h;have hd:P.underlying c=some .string:=by
   unfold oJ at k;split at k
   ·rename_i j;exact j
   ·simp at k
  obtain⟨e,hs⟩:∃e,P.underlying src=some (.int e):=by
   unfold isInt at i;split at i
   ·rename_i e j;exact⟨e,j⟩
   ·simp at i
  simp only[aA]at b;split at b
  ·rename_i m n hx
   simp at b;subst b
   have l:=ek (bq (w:=w) hr h1 hx);refine⟨_,?_,.d _ _ (.str _)⟩;simp[execOp,convert,l,underlying,hd,hs,Conv.intToString]
  ·simp at b
 |_=>simp[aC]at h
theorem Vs{o:Oper}{x i:VX}{v:AV}(h:aC P fid o.op (.index x i)=true)(e:aA r (.index x i)=some v):Yields P fid g w a o v:=by
 obtain⟨dst,op,ty,pos,after,guard⟩:=o;cases op with
 |index t y j=>
  simp only[aC,aF]at h;obtain⟨⟨l,h1⟩,m⟩:=h;have hd:P.underlying t=some .string:=by
   unfold oJ at l;split at l
   ·rename_i p;exact p
   ·simp at l
  simp only[aA]at e;split at e
  ·rename_i s k n hx hi
   split at e
   ·rename_i hn
    obtain⟨b,hb,rfl⟩:=au.1 e;unfold mL at hb;obtain⟨c,hc,rfl⟩:=au.1 hb;have q:=pW (bq (w:=w) hr h1 hx);have u:=ek (bq (w:=w) hr m hi);refine⟨.int .u8 c.toNat,?_,.d _ _ (.int _ _)⟩;simp[execOp,Instr.index,q,u,asIntOf,underlying,hd,hn,hc]
   ·simp at e
  ·simp at e
 |_=>simp[aC]at h
theorem Nx{len cap:Nat}{hi:Option AV}{j:Nat}(hh:en len hi=some j)(l:len<=cap){i:Option Operand}{c:Option VX}(b:ij fid i c=true)(d:cT r c=some hi)(h:Bool):
 (match (i.map a.eval:Option Value)with
  |some v=>Instr.sliceBound v cap (if h then .sliceAcap else .sliceAlen)
  |none=>pure len).run P w= .ok j w/\j<=len:=by
 cases i with
 |none=>
  cases c with
  |none=>
   simp[cT]at d;subst d
   simp[en]at hh;subst hh
   exact⟨by simp,aU _⟩
  |some x=>simp[ij]at b
 |some o=>
  cases c with
  |none=>simp[ij]at b
  |some x=>
   simp[ij]at b;simp[cT]at d;obtain⟨v,p,rfl⟩:=d;simp only[en]at hh;obtain⟨n,hn,hh⟩:=aw.1 hh;split at hh
   ·rename_i hc
    simp at hh;subst hh
    unfold jw at hn;split at hn
    ·rename_i k m
     simp at hn;subst hn
     have e:=ek (bq (w:=w) hr b p);refine⟨?_,hc.2⟩;simp[e,Instr.sliceBound,asIntOf,hc.1];intro hx;omega
    ·simp at hn
   ·simp at hh
theorem N0{i:Nat}{lo:Option AV}{h:Nat}(hh:em i lo=some h){ol:Option Operand}{c:Option VX}(b:ij fid ol c=true)(d:cT r c=some lo)(code:BoundsCode):
 (match (ol.map a.eval:Option Value)with
  |some v=>Instr.sliceBound v i code
  |none=>pure 0).run P w= .ok h w/\h<=i:=by
 cases ol with
 |none=>
  cases c with
  |none=>
   simp[cT]at d;subst d
   simp[em]at hh;subst hh
   exact⟨by simp,cE _⟩
  |some x=>simp[ij]at b
 |some o=>
  cases c with
  |none=>simp[ij]at b
  |some x=>
   simp[ij]at b;simp[cT]at d;obtain⟨v,j,rfl⟩:=d;simp only[em]at hh;obtain⟨n,hn,hh⟩:=aw.1 hh;split at hh
   ·rename_i hc
    simp at hh;subst hh
    unfold jw at hn;split at hn
    ·rename_i k m
     simp at hn;subst hn
     have e:=ek (bq (w:=w) hr b j);refine⟨?_,hc.2⟩;simp[e,Instr.sliceBound,asIntOf,hc.1];intro hx;omega
    ·simp at hn
   ·simp at hh
theorem y_{len cap:Nat}{lo hi:Option AV}{h d:Nat}(hh:en len hi=some d)(o:em d lo=some h)(e:len<=cap){ol k:Option Operand}{m l:Option VX}
 (n:ij fid k l=true) (s:cT r l=some hi) (i:ij fid ol m=true) (j:cT r m=some lo) (c:Bool):
 (Instr.sliceBounds c len cap (ol.map a.eval) (k.map a.eval) none).run P w= .ok (h,d,cap) w/\d<=len/\h<=d:=by
 obtain⟨h1,p⟩:=Nx (P:=P) (w:=w) hr hh e n s c;obtain⟨b,q⟩:=N0 (P:=P) (w:=w) hr o i j .sliceB;refine⟨?_,p,q⟩;cases k<;>cases ol<;>simp only[bz,D9]at h1 b⊢<;>simp[Instr.sliceBounds]<;>(try simp at h1)<;>(try simp at b)
 ·exact⟨b,h1⟩
 ·subst h1;rw[b];simp
 ·rw[h1];simp[b]
 ·rw[h1];simp[b]
theorem NO{o:Oper}{sz:Nat}{x:VX}{lo hi:Option VX}{v:AV}(h:aC P fid o.op (.slice true sz x lo hi)=true)(b:aA r (.slice true sz x lo hi)=some v):Yields P fid g w a o v:=by
 obtain⟨dst,op,ty,pos,after,guard⟩:=o;cases op with
 |slice t y u z m=>
  cases m with
  |some m=>simp[aC]at h
  |none=>
   simp only[aC,aF]at h;obtain⟨⟨⟨h1,e⟩,k⟩,c⟩:=h;split at c
   ·rename_i p
    simp only[aA]at b;split at b
    ·rename_i s D C hx l hh
     obtain⟨hn,j,b⟩:=aw.1 b;obtain⟨n,i,rfl⟩:=au.1 b;have q:=pW (bq (w:=w) hr h1 hx);obtain⟨hb,_,_⟩:=y_ (P:=P) (w:=w) hr j i (aU _) k hh e l false;refine⟨.string (s.extract n hn),?_,.d _ _ (.str _)⟩;simp[execOp,Instr.sliceAt,Instr.slice,underlying,p,q,hb]
    ·simp at b
   ·simp at c
   ·simp at c
 |_=>simp[aC]at h
theorem SZ{o:Oper}{sz:Nat}{x:VX}{lo hi:Option VX}{v:AV}(h:aC P fid o.op (.slice false sz x lo hi)=true)(p:aA r (.slice false sz x lo hi)=some v):Yields P fid g w a o v:=by
 obtain⟨dst,op,ty,pos,after,guard⟩:=o;cases op with
 |slice t y l' h' m=>
  cases m with
  |some m=>simp[aC]at h
  |none=>
   simp only[aC,aF]at h;obtain⟨⟨⟨h1,W⟩,Z⟩,z⟩:=h;split at z
   ·simp at z
   ·rename_i e hu
    simp at z;obtain⟨H,I,hsz⟩:∃H,P.info? e=some H/\H.size=sz:=by
     unfold eg at z;obtain⟨H,z,N⟩:=au.1 z;exact⟨H,z,N⟩
    simp only[aA]at p;split at p
    ·rename_i tg xs vl vh hx hl hh
     split at p
     ·rename_i K
      obtain⟨hn,N,p⟩:=aw.1 p;obtain⟨n,Y,rfl⟩:=au.1 p;have u:=cX (bq (w:=w) hr h1 hx);generalize X:a.eval y=q at u;cases u with
      |nil=>
       obtain⟨hb,G,J⟩:=y_ (P:=P) (w:=w) hr N Y (aU _) Z hh W hl true;simp at G;subst G;simp at J;subst J
       refine⟨.slice none 0 0,?_,.d _ _ (by simpa using VR.nil)⟩;simp at hb;simp[execOp,Instr.sliceAt,Instr.slice,underlying,hu,X,hb,sizeOf,typeInfo,I]
      |row _ _ ad c s U ht hlen hm b hK hcs hvs x1=>
       obtain⟨hb,G,J⟩:=y_ (P:=P) (w:=w) (cap:=c) hr N Y hlen Z hh W hl true;have hs:xs≠[]->s=sz:=by
        intro l;obtain⟨e0,M⟩:=md xs l;obtain⟨i,hi⟩:=c9.1 M;have h9:=(hcs i e0 hi).1;have Q:=(bu.1 K) e0 M;simp at Q;omega
       have F:((xs.take hn).drop n).length=hn-n:=by simp;omega
       refine⟨.slice (some (if c=n then ad else ad.add (n*sz))) (hn-n) (c-n),?_,.d _ _ ?_⟩
       ·simp[execOp,Instr.sliceAt,Instr.slice,underlying,hu,X,hb,sizeOf,typeInfo,I,hsz]
        split<;>simp
       ·have V:(if tg=Tag.nil then Tag.nil else Tag.sub)=Tag.sub:=ak ht
        rw[V,<-F]
        by_cases l:xs=[]
        ·subst l
         simp at G;subst G;simp at J;subst J
         exact .row _ _ _ _ s U (by simp) (by simp) (by omega) (by simp) (by simp) (by simp) (by simp) (by simp)
        ·have hs:=hs l
         subst hs
         by_cases hcl:c=n
         ·have:(xs.take hn).drop n=[]:=mc (by omega)
          rw[this,ap hcl];exact .row _ _ _ _ s U (by simp) (by simp) (by omega) (by simp) (by simp) (by simp) (by simp) (by simp)
         ·rw[ak hcl]
          have hmul:hn*s<=xs.length*s:=fb s G;have R:n*s+(hn-n)*s=hn*s:=by rw[<-Nat.add_mul];congr 1;omega
          have D:0<s->ad.spot=none:=by
           intro C;have:=b 0 (Nat.mul_pos (v_.2 l) C);unfold World.cell? Addr.add at this;simp at this;split at this
           ·split at this
            ·simp at this
            ·rename_i hh;simpa using hh
           ·simp at this
          refine .row _ _ _ _ s (fun k=>U (n*s+k)) (by simp) (by omega) (by omega) (fun k O=> ?_) ?_ (fun i x hi=> ?_) (fun i x j v hi hj=> ?_) (by simp)
          ·rw[F]at O
           have C:0<s:=by
            rcases kf s with S|S
            ·rw[S]at O;simp at O
            ·exact S
           rw[add_add _ _ _ (D C)];exact b _ (by omega)
          ·rw[mi,add_block,F];omega
          ·rw[gk,ew]at hi
           split at hi
           ·exact hcs _ _ hi
           ·simp at hi
          ·rw[gk,ew]at hi
           split at hi
           ·have:=hvs _ _ _ _ hi hj
            rw[c_,BU]at this;exact this
           ·simp at hi
     ·simp at p
    ·simp at p
   ·simp at z
 |_=>simp[aC]at h
end
end
section
variable {P:Program} {fid:Nat->FuncId} {g:Gh} {w:World}
theorem ql{t:TypeId}{sz:Nat}(h:eg P t=some sz):∃b,P.info? t=some b/\b.size=sz:=by
 unfold eg at h;obtain⟨b,c,d⟩:=au.1 h;exact⟨b,c,d⟩
theorem Uj{t:TypeId}{b:Bool}(h:ni P t=some b):(isAgg t).run P w= .ok b w:=by
 unfold ni at h;obtain⟨d,c,e⟩:=au.1 h;simp[isAgg,underlying,c];subst e;cases d<;>simp
theorem p8{t e:TypeId}(h:jK P t=some e):P.underlying t=some (.slice e):=by
 unfold jK at h;split at h
 ·rename_i b;simp at h;subst h;exact b
 ·simp at h
theorem sF{t:TypeId}{d:TypeDesc}(h:P.underlying t=some d):(underlying t).run P w= .ok d w:=by simp[underlying,h]
theorem pj{t:TypeId}{sz:Nat}(h:eg P t=some sz):(sizeOf t).run P w= .ok sz w:=by
 obtain⟨c,h1,b⟩:=ql h;simp[sizeOf,typeInfo,h1,b]
theorem FI(f:Value->ByteArray->Sem (ForInStep ByteArray))(h:∀n r,f (.int .u8 n) r=pure (ForInStep.yield (r.push (UInt8.ofNat n.toNat)))):∀(xs:List DV) (us:List Value) (bs:List UInt8) (s:ByteArray),bytesOf xs=some bs->us.length=xs.length->(∀(j:Nat) (v:DV) (u:Value),xs[j]?=some v->us[j]?=some u->VR g w v u)->
 (forIn us s f).run P w= .ok ⟨s.data++bs.toArray⟩ w
 | [],us,bs,s,hb,b,_=>by
  simp[bytesOf]at hb;subst hb
  have:us=[]:=mc (by simpa using b);subst this;simp
 |x::xs,us,bs,s,hb,b,e=>by
  cases us with
  |nil=>simp at b
  |cons u us=>
   have l:=e 0 x u rfl rfl;unfold bytesOf at hb;split at hb
   ·simp_all
   ·rename_i n r heq
    simp at heq;obtain⟨rfl,rfl⟩:=heq;obtain⟨c,d,rfl⟩:=au.1 hb;cases l;have i:=FI f h xs us c (s.push (UInt8.ofNat n.toNat)) d (by simpa using b) (fun j v u h1 k=>e (j+1) v u (by simpa using h1) (by simpa using k));simp only[List.forIn_cons,Sem.run_bind,h,Sem.run_pure,Result.andThen_ok];rw[i]
    congr 2
    simp[ByteArray.push]
   ·simp at hb
theorem Gp(off:Nat):∀(vs:List Value) (k:Nat) (arr:Array Value),off+k+vs.length<=arr.size->
 ((vs.zipIdx k).foldl (fun cs x=>cs.setIfInBounds (off+x.2) x.1) arr).size=arr.size/\
 ∀j,((vs.zipIdx k).foldl (fun cs x=>cs.setIfInBounds (off+x.2) x.1) arr)[j]?=if off+k<=j/\j<off+k+vs.length then vs[j-(off+k)]? else arr[j]?
 | [],k,arr,h=>⟨rfl,fun j=>by simp;intro h1 b;omega⟩
 |v::vs,k,arr,h=>by
  simp only[List.zipIdx_cons,rX];obtain⟨h1,b⟩:=Gp off vs (k+1) (arr.setIfInBounds (off+k) v) (by simp at h⊢;omega);refine⟨by rw[h1];simp,fun j=> ?_⟩;rw[b];simp only[cB]at h
  by_cases hj:j=off+k
  ·subst hj
   rw[ak (by omega),ap (by simp only[cB];omega)];simp;rw[Array.getElem?_setIfInBounds_self_of_lt (by omega)]
  ·by_cases hr:off+(k+1)<=j/\j<off+(k+1)+vs.length
   ·rw[ap hr,ap (by simp;omega)]
    obtain⟨m,rfl⟩:∃m,j=off+(k+1)+m:=⟨j-(off+(k+1)),by omega⟩;have c:off+(k+1)+m-(off+(k+1))=m:=by omega
    have d:off+(k+1)+m-(off+k)=m+1:=by omega
    rw[c,d];rfl
   ·rw[ak hr,ak (by simp;omega)]
    rw[jq (by omega)]
theorem jU{α:Type}(cs:List α)(off:Nat)(new:List α)(h:off+new.length<=cs.length)(j:Nat):
 (splice cs off new)[j]?=if off<=j/\j<off+new.length then new[j-off]? else cs[j]?:=by
 unfold splice;have b:(cs.take off).length=off:=by simp;omega
 by_cases h1:j<off
 ·rw[ak (by omega),b7,bY (by omega),ew,ap h1]
 ·by_cases c:j<off+new.length
  ·rw[ap ⟨by omega,c⟩,b7,cj (by omega),bY (by omega),b]
  ·rw[ak (by omega),cj (by simp;omega),gk]
   congr 1
   simp;omega
theorem ji{α:Type}(cs:List α)(off:Nat)(new:List α)(h:off+new.length<=cs.length):(splice cs off new).length=cs.length:=by
 simp[splice];omega
def qef(g:Gh)(w:World)(cs:List DV)(arr:Array Value):Prop:=
 arr.size=cs.length/\(∀v,v∈cs->v.isCell=true)/\∀(j:Nat) (v:DV) (u:Value),cs[j]?=some v->arr[j]?=some u->VR g w v u
theorem KR{us:Array Value}{vs:List DV}(h:gF us.toList vs=true):qef g w vs us:=
 ⟨by simpa using yG h,fun v b=>GB h v b,fun j v u h1 c=>(vg (xb h j v u h1 (by simpa using c))).1⟩
theorem qef.put{cs:List DV}{arr:Array Value}(h:qef g w cs arr){v:DV}{u:Value}(i:VR g w v u)(hc:v.cells.all DV.isCell=true){off:Nat}(hlen:off+v.cells.length<=cs.length):
 qef g w (splice cs off v.cells) (u.cells.zipIdx.foldl (fun cs (c,j)=>cs.setIfInBounds (off+j) c) arr)/\u.cells.size=v.cells.length:=by
 have d:∀c,c∈v.cells->c.isCell=true:=fun c hm=>(bu.1 hc) c hm
 obtain⟨h1,e,m⟩:=Af i d;have b:(u.cells.zipIdx.foldl (fun cs (c,j)=>cs.setIfInBounds (off+j) c) arr)=(u.cells.toList.zipIdx 0).foldl (fun cs x=>cs.setIfInBounds (off+x.2) x.1) arr:=by
  rw[<-Array.foldl_toList,Array.toList_zipIdx]
 rw[b];obtain⟨k,l⟩:=Gp off u.cells.toList 0 arr (by simp;have:=h.1;omega);refine⟨⟨by rw[k,ji _ _ _ hlen];exact h.1,fun x hx=> ?_,fun j x y hx hy=> ?_⟩,h1⟩
 ·obtain⟨j,hj⟩:=c9.1 hx
  rw[jU _ _ _ hlen]at hj;split at hj
  ·exact d x (bU hj)
  ·exact h.2.1 x (bU hj)
 ·rw[jU _ _ _ hlen]at hx
  rw[l]at hy;simp at hy
  by_cases hc:off<=j/\j<off+v.cells.length
  ·rw[ap hc]at hx
   rw[ap (by omega)]at hy;exact e _ _ _ hx hy
  ·rw[ak hc]at hx
   rw[ak (by omega)]at hy;exact h.2.2 _ _ _ hx hy
theorem EA{a:Act}{r:List (Nat×AV)}(hr:qcY fid g w r a.tmps)(place:Nat->Option (Nat×Nat)):∀(ps:List (Nat×Operand)) (b:List (Nat×Nat×VX)) (cs cs':List DV) (arr:Array Value),
 lS fid place ps b=true->dS (VX.get r) cs b=some cs'->qef g w cs arr->
 ∃arr',Instr.fill place arr (ps.map fun q=>(q.1,a.eval q.2))=some arr'/\qef g w cs' arr'
 | [],[],cs,cs',arr,_,h,hc=>by simp[dS]at h;subst h;exact⟨arr,rfl,hc⟩
 |(i,o)::ps,(off,size,x)::b,cs,cs',arr,d,h,hc=>by
  simp only[lS,aF,eJ]at d;obtain⟨⟨h1,m⟩,n⟩:=d;simp only[dS]at h;split at h
  ·rename_i v hx
   split at h
   ·rename_i c
    obtain⟨rfl,hlen,j⟩:=c;have k:=cX (bq (w:=w) hr m hx);obtain⟨e,hsz⟩:=hc.put k j hlen;obtain⟨arr',l,p⟩:=EA hr place ps b _ cs' _ n h e;refine⟨arr',?_,p⟩;simp only[bo,Instr.fill,h1];rw[ak (by have:=hc.1;simp;omega)];exact l
   ·simp at h
  ·simp at h
 | [],_::_,_,_,_,h,_,_=>by simp[lS]at h
 |_::_,[],_,_,_,h,_,_=>by simp[lS]at h
section
variable {a:Act} {r:List (Nat×AV)} (hr:qcY fid g w r a.tmps)
include hr
theorem Qx{o:Oper}{x:VX}{v:AV}(h:aC P fid o.op (.conv .bytes x)=true)(H:aA r (.conv .bytes x)=some v):Yields P fid g w a o v:=by
 obtain⟨dst,op,ty,pos,after,guard⟩:=o;cases op with
 |convert src G y=>
  simp only[aC,aF]at h;obtain⟨⟨h1,J⟩,l⟩:=h;have hd:P.underlying G=some .string:=by
   unfold oJ at J;split at J
   ·rename_i p;exact p
   ·simp at J
  split at l
  ·rename_i e he
   have hs:=p8 he;simp at l;have O:P.underlying e=some (.int .u8):=by
    unfold xB at l;split at l
    ·rename_i p;simp at l;subst l;exact p
    ·simp at l
   simp only[aA]at H;split at H
   ·rename_i Y xs hx
    obtain⟨bs,hb,rfl⟩:=au.1 H;have k:=cX (bq (w:=w) hr h1 hx);generalize p:a.eval y=q at k;cases k with
    |nil=>
     simp[bytesOf]at hb;subst hb
     refine⟨.string .empty,?_,.d _ _ ?_⟩
     ·simp[execOp,convert,p,underlying,hs,hd,O,Conv.bytesToString]
     ·exact .str _
    |row _ _ ad c s U X hlen hm m Z hcs hvs t=>
     refine⟨.string ⟨bs.toArray⟩,?_,.d _ _ (.str _)⟩;have i:xs≠[]->s=1:=by
      intro M;cases xs with
      |nil=>exact absurd rfl M
      |cons x xs=>
       have V:=(hcs 0 x rfl).1;unfold bytesOf at hb;split at hb
       ·simp_all
       ·rename_i n r heq
        simp at heq;obtain⟨rfl,rfl⟩:=heq;simpa[DV.cells]using V.symm
       ·simp at hb
     have b:(loadCells ad xs.length).run P w= .ok ((List.range xs.length).map U).toArray w:=run_loadCells w ad _ U (fun j hj=>by
      have:xs≠[]:=fun he=>by simp[he]at hj
      have:=i this;subst this;exact m j (by omega))
     have N:=fun f R=>FI (P:=P) (g:=g) (w:=w) f R xs ((List.range xs.length).map U) bs .empty hb (by simp) (fun j v u I Q=>by
      have D:j<xs.length:=(aK.1 I).1;have:xs≠[]:=fun he=>by simp[he]at D
      have:=i this;subst this;simp[D]at Q;subst Q;have hc:v.cells=[v]:=by
       cases v with
       |agg cs=>
        have:=hcs _ _ I;exfalso;clear hvs t b;have C:DV.agg cs∈xs:=bU I;have:∀(ys:List DV) (bs:List UInt8),bytesOf ys=some bs->DV.agg cs∉ys:=by
         intro ys
         induction ys with
         |nil=>intro _ _ hm;simp at hm
         |cons z zs S=>
          intro bs hb hm;unfold bytesOf at hb;split at hb
          ·simp_all
          ·rename_i n r heq
           simp at heq;obtain⟨rfl,rfl⟩:=heq;obtain⟨W,K,rfl⟩:=au.1 hb;simp at hm;exact S _ K hm
          ·simp at hb
        exact this xs bs hb C
       |_=>rfl
      have:=hvs j v 0 v I (by rw[hc];rfl);simpa using this)
     have F:(ByteArray.empty.data++bs.toArray)=bs.toArray:=by show #[]++bs.toArray=_;simp
     simp only[F]at N;simp only[execOp,convert,p,Sem.run_bind,sF hs,sF hd,sF O,Result.andThen_ok,Conv.bytesToString,b,List.forIn_toArray];rw[N _ (fun _ _=>rfl)];simp
   ·simp at H
  ·simp at l
 |_=>simp[aC]at h
theorem YE{o:Oper}{z:List DV}{c:List (Nat×Nat×VX)}{v:AV}(h:aC P fid o.op (.build z c)=true)(p:aA r (.build z c)=some v):Yields P fid g w a o v:=by
 obtain⟨dst,op,ty,pos,after,guard⟩:=o;cases op with
 |build t ps=>
  simp only[aC,aF]at h;obtain⟨h1,j⟩:=h;split at j
  ·rename_i pl b
   unfold tT at h1;split at h1
   ·rename_i y hz
    obtain⟨it,hit,hzero⟩:=aw.1 hz;simp only[aA]at p;obtain⟨cs,hcs,rfl⟩:=au.1 p;obtain⟨arr,s,l⟩:=EA hr pl ps.toList c z cs y.cells j hcs (KR h1);have hb:P.built t (ps.map fun(i,x)=>(i,a.eval x)).toList=some arr:=by
     have e:(ps.map fun(i,x)=>(i,a.eval x)).toList=ps.toList.map fun q=>(q.1,a.eval q.2):=by simp
     rw[e];unfold HI at b;unfold Program.built;split at b
     ·rename_i n D k
      obtain⟨C,m,rfl⟩:=au.1 b;simp[hit,k,hzero,m];exact s
     ·rename_i fs k
      obtain⟨places,u,rfl⟩:=au.1 b;simp[hit,k,hzero,u];simpa using s
     ·simp at b
    refine⟨.agg arr,?_,.d _ _ (.agg _ _ l.1 l.2.1 l.2.2)⟩;simp only[execOp,Sem.run_bind];rw[run_build w t _ arr hb];simp
   ·simp at h1
  ·simp at j
 |_=>simp[aC]at h
end
end
variable {P:Program} {fid:Nat->FuncId} {g:Gh} {w:World}
theorem Kk(d:Nat){cs cs':List DV}{xs ys:Array Value}(hx:qef g w cs xs)(hy:qef g w cs' ys):
 ∀(fs:List Field) (ks:List Nat) (i:Nat) (b:Bool),nX P i fs ks=true->dR ks (cs.drop i) (cs'.drop i)=some b->
  (Op.eqFields (d+1) xs ys fs).run P w= .ok b w
 | [],[],i,b,_,l=>by
  unfold dR at l;split at l<;>simp_all
  simp[Op.eqFields]
 |f::fs,k::ks,i,b,H,l=>by
  simp only[nX,aF,ba]at H;obtain⟨⟨⟨C,y⟩,j⟩,u⟩:=H;subst C;have M:f.offset<cs.length:=by
   rcases dZ f.offset cs.length with h|h
   ·exact h
   ·rw[kw h]at l;unfold dR at l;split at l<;>simp_all
  have N:f.offset<cs'.length:=by
   rcases dZ f.offset cs'.length with h|h
   ·exact h
   ·rw[kw h]at l;unfold dR at l;split at l<;>simp_all
  have K:f.offset<xs.size:=by have:=hx.1;omega
  have O:f.offset<ys.size:=by have:=hy.1;omega
  have vx:=hx.2.2 f.offset cs[f.offset] xs[f.offset] (by simp) (by simp);have z:=hy.2.2 f.offset cs'[f.offset] ys[f.offset] (by simp) (by simp);rw[cW M,cW N]at l;have D:=fun b h=>Kk d hx hy fs ks (f.offset+1) b u h
  have p:f.name≠ "_":=by simpa using y
  have F:(isAgg f.type).run P w= .ok false w:=by
   split at j
   ·rename_i n;simp[isAgg,underlying,n]
   ·rename_i n;simp[isAgg,underlying,n]
   ·rename_i n;simp[isAgg,underlying,n]
   ·simp at j
  have m:∀(zs:Array Value) (G:f.offset<zs.size),(part f.type zs f.offset).run P w= .ok zs[f.offset] w:=by
   intro zs G;simp[part,F,G]
  simp only[Op.eqFields,p,eD,iN,if_true,Sem.run_bind,m xs K,m ys O,Result.andThen_ok];generalize xs[f.offset]=q at vx⊢
  generalize ys[f.offset]=q' at z⊢
  generalize cs[f.offset]=c at vx l;generalize cs'[f.offset]=c' at z l;have x:∀(e:Bool) (o:Option Bool),(if e=true then o else o.map fun _=>false)=some b->(∀b,o=some b->(Op.eqFields (d+1) xs ys fs).run P w= .ok b w)->
   (if(!e)=true then(pure false:Sem Bool)else Op.eqFields (d+1) xs ys fs).run P w= .ok b w:=by
   intro e o h hh;cases e with
   |true=>exact hh b (by simpa using h)
   |false=>
    simp at h;simp[h.2]
  unfold dR at l;split at l
  ·simp_all
  ·rename_i t s e3
   simp at t s e3;obtain⟨rfl,rfl⟩:=t;obtain⟨rfl,rfl⟩:=s;obtain⟨rfl,rfl⟩:=e3;split at l
   ·rename_i I
    subst I;cases vx;cases z
    split at j
    ·simp at j
    ·rename_i J n
     rw[run_equalIn_int w d f.type _ J _ _ n];exact x _ _ l D
    ·simp at j
    ·simp at j
   ·simp at l
  ·rename_i t s e3
   simp at t s e3;obtain⟨rfl,rfl⟩:=t;obtain⟨rfl,rfl⟩:=s;obtain⟨rfl,rfl⟩:=e3;cases vx;cases z
   split at j
   ·rename_i n
    rw[run_equalIn_bool' w d f.type _ _ n];exact x _ _ l D
   ·simp at j
   ·simp at j
   ·simp at j
  ·rename_i t s e3
   simp at t s e3;obtain⟨rfl,rfl⟩:=t;obtain⟨rfl,rfl⟩:=s;obtain⟨rfl,rfl⟩:=e3;cases vx;cases z
   split at j
   ·simp at j
   ·simp at j
   ·rename_i n
    rw[run_equalIn_string w d f.type _ _ n];exact x _ _ l D
   ·simp at j
  ·simp at l
 | [],_::_,_,_,h,_=>by simp[nX]at h
 |_::_,[],_,_,h,_=>by simp[nX]at h
section
variable {a:Act} {r:List (Nat×AV)} (hr:qcY fid g w r a.tmps)
include hr
theorem UH{o:Oper}{neg:Bool}{ks:List Nat}{x y:VX}{v:AV}(h:aC P fid o.op (.eqAgg neg ks x y)=true)(l:aA r (.eqAgg neg ks x y)=some v):Yields P fid g w a o v:=by
 obtain⟨dst,op,ty,pos,after,guard⟩:=o;cases op with
 |binOp K t x' H Q=>
  simp only[aC,aF,ba]at h;obtain⟨⟨⟨hb,h1⟩,M⟩,m⟩:=h;split at m
  ·rename_i fs I
   simp at m;obtain⟨⟨R,O⟩,N⟩:=m;simp only[aA]at l;split at l
   ·rename_i V S hx hy
    obtain⟨b,c,rfl⟩:=au.1 l;have G:=cX (bq (w:=w) hr h1 hx);have J:=cX (bq (w:=w) hr M hy);generalize D:a.eval x'=q at G;generalize j:a.eval H=q' at J;cases G with
    |agg _ us z n s=>
     cases J with
     |agg _ e C p u=>
      have i:P.fieldsOf t=fs:=by simp[Program.fieldsOf,I]
      have k:=Kk (P:=P) (w:=w) 9998 ⟨z,n,s⟩ ⟨C,p,u⟩ fs.toList ks 0 b R (by simpa using c);have heq:(Op.equalIn 10000 t (.agg us) (.agg e)).run P w= .ok b w:=by
       rw[show(10000:Nat)=9999+1 from rfl,run_equalIn_struct w 9999 t us e (by rw[i];exact I) O,i];exact k
      have F:=run_eqGuard_agg (P:=P) w K t x' H us e N;refine⟨.bool (if neg then !b else b),?_,.d _ _ (.bool _)⟩;cases neg<;>simp at hb<;>subst hb
      ·simp[execOp,D,j,F,run_eql_struct,heq]
      ·simp[execOp,D,j,F,run_neq_struct,heq]
   ·simp at l
  ·simp at m
 |_=>simp[aC]at h
theorem Hv{o:Oper}{e:VOp}{v:AV}(h:aC P fid o.op e=true)(d:aA r e=some v):Yields P fid g w a o v:=by
 cases e with
 |move x=>exact Pn hr h d
 |pick c x y=>exact qOV hr h d
 |build z ps=>exact YE hr h d
 |nilCheck x=>exact Il hr h d
 |bin b x y=>exact Oo hr h d
 |eqAgg n k x y=>exact UH hr h d
 |eqB n x y=>exact qUr hr h d
 |eqNil n x=>exact NX hr h d
 |not x=>exact Pb hr h d
 |conv c x=>
  cases c with
  |kind k=>exact Zf hr h d
  |bytes=>exact Qx hr h d
  |rune=>exact qOU hr h d
 |index x i=>exact Vs hr h d
 |indexAddr sz arr x i=>
  cases arr with
  |none=>exact Z9 hr h d
  |some n=>exact WW hr h d
 |fieldAddr off x=>exact Ki hr h d
 |slice s sz x lo hi=>
  cases s with
  |true=>exact NO hr h d
  |false=>exact SZ hr h d
 |makeFunc f cs=>exact qw1 hr h d
 |extract x i=>exact Za hr h d
 |len s x=>exact SP hr h d
 |_=>simp[aA]at d
end
end Go.Proofs.YtpcoohnjllclnaaGreat.VS
