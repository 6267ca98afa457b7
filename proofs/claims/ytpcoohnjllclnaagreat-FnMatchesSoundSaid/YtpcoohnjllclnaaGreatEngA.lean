/- The engine, part 1: a call of the program answers what an evaluator of values without memory answers, for the functions whose code is the one that the evaluator is given. -/
import GoSem.Core.View
import GoSem.Op.String
import GoSem.Core.Utf8
import GoSem.Core.Code
import Derived.Calls
import Derived.Control
import GoSem.ClaimData
import Derived.Orders
import Derived.Laws.Sem
import Derived.Laws.Cells
import Derived.Laws.World
import Derived.Laws.Entries
import Derived.Laws.CopyRow
import Derived.Laws.Rows
import Derived.Laws.Tables
import Derived.Laws.StructEq
set_option linter.unusedSimpArgs false
set_option linter.unusedVariables false
namespace Go.Proofs.YtpcoohnjllclnaaGreat.VS
abbrev xO:=List (Nat×Operand)
abbrev yep:=List (Nat×List Value)
abbrev yel:=List (List Nat)
abbrev mg:=Option (Nat×Bool)
abbrev MJ:=Option Operand
abbrev m8:=Array Bool
abbrev mx:=Option Bool
abbrev ot:=List TypeId
abbrev ib:=Option Addr
abbrev qG:=Array Oper
abbrev cA:=Array Value
abbrev bW:=List Value
abbrev a_:=Option Nat
abbrev aX:=List Int
abbrev ae:=List Nat
theorem aD{p:Prop}(h:p):p:=h
theorem aR{α:Type _}{p:α->Prop}{a:α}{l:List α}(h:p a)(t:∀x,x∈l->p x):∀x,x∈a::l->p x:=List.forall_mem_cons.2 ⟨h,t⟩
abbrev tO:=@List.set_eq_take_append_cons_drop
abbrev kg:=@Array.getElem?_setIfInBounds_ne
abbrev F7:=@List.drop_append_of_le_length
abbrev nQ:=@List.eq_nil_of_length_eq_zero
abbrev Hr:=@List.getLast?_eq_some_getLast
abbrev NZ:=@List.take_append_of_le_length
abbrev uc:=@List.dropLast_concat_getLast
abbrev Lw:=@Array.getElem?_append_right
abbrev kN:=@Array.getElem?_append_left
abbrev d9:=@Array.getElem?_eq_some_iff
abbrev Mx:=@Int.fdiv_eq_ediv_of_nonneg
abbrev kX:=@Array.getElem?_eq_getElem
abbrev dl:=@List.drop_eq_getElem_cons
abbrev nc:=@List.exists_mem_of_ne_nil
abbrev Ak:=@List.getElem?_eq_none_iff
abbrev aU:=@List.getElem?_eq_some_iff
abbrev rY:=@List.mem_or_eq_of_mem_set
abbrev gV:=@List.sublist_append_right
abbrev Mh:=@Option.isNone_iff_eq_none
abbrev C0:=@Array.getElem?_push_size
abbrev Lb:=@List.Perm.eq_of_pairwise
abbrev uM:=@List.eq_of_mem_replicate
abbrev eJ:=@List.getElem?_eq_getElem
abbrev xp:=@List.getElem_append_left
abbrev pC:=@List.sublist_append_left
abbrev oU:=@Option.isSome_iff_exists
abbrev mP:=@List.getElem?_cons_succ
abbrev eG:=@List.getElem?_cons_zero
abbrev Gf:=@List.getElem?_replicate
abbrev iz:=@List.getElem?_set_self'
abbrev jX:=@List.length_eq_zero_iff
abbrev rZ:=@List.pairwise_singleton
abbrev jN:=@decide_eq_false_iff_not
abbrev D4:=@Array.getElem?_eq_none
abbrev Dt:=@Array.getElem?_push_lt
abbrev GE:=@List.append_eq_nil_iff
abbrev ki:=@List.drop_eq_nil_of_le
abbrev oz:=@List.drop_of_length_le
abbrev QZ:=@List.findIdx_eq_length
abbrev rP:=@List.findIdx_le_length
abbrev iM:=@List.getElem?_set_self
abbrev oY:=@List.length_eq_one_iff
abbrev NF:=@List.not_of_lt_findIdx
abbrev HV:=@List.singleton_sublist
abbrev IP:=@List.sublist_cons_self
abbrev dE:=@List.take_of_length_le
abbrev MM:=@Option.map_eq_none_iff
abbrev QP:=@Array.getElem?_modify
abbrev yaW:=@Array.getElem?_toList
abbrev Fc:=@Array.mem_iff_getElem
abbrev NI:=@Bool.and_eq_false_iff
abbrev IK:=@List.Perm.append_left
abbrev wU:=@List.contains_iff_mem
abbrev gU:=@List.getElem?_eq_none
abbrev qt:=@List.getElem?_toArray
abbrev Gq:=@List.length_replicate
abbrev od:=@List.mem_append_right
abbrev dH:=@List.mem_iff_getElem?
abbrev sJ:=@List.perm_append_comm
abbrev kv:=@List.set_append_right
abbrev EU:=@List.singleton_append
abbrev gM:=@List.sizeOf_lt_of_mem
abbrev d7:=@List.take_append_drop
abbrev xA:=@Array.mem_toList_iff
abbrev kC:=@Bool.or_eq_false_iff
abbrev dK:=@List.getElem?_set_ne
abbrev lw:=@List.mem_append_left
abbrev em:=@List.mem_cons_of_mem
abbrev cg:=@List.mem_of_getElem?
abbrev sV:=@List.mem_of_mem_drop
abbrev sF:=@List.mem_of_mem_take
abbrev jL:=@List.pairwise_append
abbrev FQ:=@Nat.div_lt_of_lt_mul
abbrev fP:=@Nat.mul_le_mul_right
abbrev oD:=@Nat.pow_le_pow_right
abbrev Kt:=@Array.length_toList
abbrev ig:=@List.Sublist.append
abbrev wE:=@List.forall_mem_nil
abbrev lU:=@List.getElem_of_mem
abbrev wC:=@List.length_pos_iff
abbrev rk:=@List.map_congr_left
abbrev Fg:=@List.replicate_succ
abbrev se:=@List.take_succ_cons
abbrev A6:=@beq_eq_false_iff_ne
abbrev B7:=@Array.append_assoc
abbrev bL:=@Bool.false_eq_true
abbrev pZ:=@Int.cast_ofNat_Int
abbrev gP:=@List.getElem?_drop
abbrev eY:=@List.getElem?_take
abbrev fH:=@List.mem_cons_self
abbrev bO:=@List.mem_singleton
abbrev jc:=@List.pairwise_cons
abbrev nE:=@List.set_cons_zero
abbrev kY:=@Nat.eq_zero_or_pos
abbrev nt:=@Nat.lt_of_lt_of_le
abbrev rt:=@Array.all_eq_true
abbrev nX:=@Array.size_append
abbrev FA:=@Bool.not_eq_false
abbrev fT:=@Bool.not_eq_true'
abbrev lH:=@Function.comp_def
abbrev AO:=@Int.toNat_natCast
abbrev ns:=@List.Pairwise.nil
abbrev co:=@List.Sublist.refl
abbrev jG:=@List.ext_getElem?
abbrev eI:=@List.flatMap_cons
abbrev kH:=@List.flatten_cons
abbrev c7:=@List.getElem?_map
abbrev gW:=@List.isEmpty_cons
abbrev FO:=@List.length_range
abbrev cJ:=@List.nodup_append
abbrev iV:=@List.size_toArray
abbrev NY:=@List.take_add_one
abbrev aL:=@Option.some.injEq
abbrev bu:=@decide_eq_true_eq
abbrev jT:=@not_false_eq_true
abbrev om:=@not_true_eq_false
abbrev aQ:=@Bool.and_eq_true
abbrev tW:=@Int.natCast_zero
abbrev bB:=@List.all_eq_true
abbrev vm:=@List.any_eq_true
abbrev rp:=@List.append_inj'
abbrev dk:=@List.cons_append
abbrev uy:=@List.drop_append
abbrev Ch:=@List.drop_length
abbrev KW:=@List.ext_getElem
abbrev nN:=@List.flatMap_map
abbrev xH:=@List.getElem_map
abbrev jt:=@List.getElem_mem
abbrev de:=@List.length_cons
abbrev ZS:=@List.length_drop
abbrev rO:=@List.length_take
abbrev vS:=@List.mem_flatMap
abbrev kE:=@List.nil_sublist
abbrev nT:=@List.not_mem_nil
abbrev tS:=@List.perm_middle
abbrev DC:=@List.range'_succ
abbrev pm:=@List.sublist_nil
abbrev fG:=@List.take_length
abbrev Et:=@Nat.le_add_right
abbrev gT:=@Nat.le_max_right
abbrev j1:=@Nat.lt_succ_self
abbrev Gi:=@Nat.mod_eq_of_lt
abbrev a9:=@Option.bind_some
abbrev fy:=@Option.getD_some
abbrev r_:=@Bool.eq_iff_iff
abbrev cI:=@Bool.or_eq_true
abbrev nn:=@Int.natCast_add
abbrev FJ:=@List.all_append
abbrev dB:=@List.append_nil
abbrev xK:=@List.foldl_cons
abbrev eo:=@List.length_map
abbrev iL:=@List.length_nil
abbrev lm:=@List.length_set
abbrev c6:=@List.map_append
abbrev bC:=@List.mem_append
abbrev ij:=@List.mem_filter
abbrev dG:=@List.nil_append
abbrev ju:=@List.nodup_cons
abbrev FP:=@List.range_succ
abbrev rh:=@List.take_left'
abbrev Cs:=@Nat.div_add_mod
abbrev jI:=@Nat.le_max_left
abbrev wW:=@Nat.min_eq_left
abbrev BG:=@Nat.not_lt_zero
abbrev E9:=@Option.map_none
abbrev bH:=@Option.map_some
abbrev tM:=@Option.some.inj
abbrev md:=@beq_false_of_ne
abbrev qE:=@Bool.not_false
abbrev jW:=@List.Perm.refl
abbrev l_:=@List.drop_drop
abbrev gD:=@List.drop_zero
abbrev f_:=@List.mem_range
abbrev rS:=@List.take_zero
abbrev Gj:=@Option.map_map
abbrev Ao:=@Bool.and_self
abbrev nG:=@Bool.and_true
abbrev pi:=@Bool.false_or
abbrev m9:=@Bool.not_true
abbrev pO:=@Bool.or_false
abbrev fh:=@Bool.true_and
abbrev C2:=@Int.add_assoc
abbrev gF:=@List.all_cons
abbrev bA:=@List.map_cons
abbrev B_:=@List.map_take
abbrev bK:=@List.mem_cons
abbrev Gu:=@List.set_comm
abbrev Fp:=@Nat.add_assoc
abbrev dJ:=@Prod.mk.injEq
abbrev qh:=@Sum.inl.injEq
abbrev et:=@List.map_map
abbrev cM:=@List.map_nil
abbrev cw:=@List.mem_map
abbrev qk:=@Nat.add_zero
abbrev ym:=@Nat.le_of_lt
abbrev cT:=@Nat.le_trans
abbrev eN:=@Nat.lt_or_ge
abbrev mK:=@Nat.mul_comm
abbrev nw:=@Nat.sub_self
abbrev lq:=@Nat.sub_zero
abbrev fR:=@Nat.zero_add
abbrev td:=@Nat.zero_mul
abbrev dF:=@Nat.add_mul
abbrev bf:=@Nat.le_refl
abbrev ch:=@Nat.le_succ
abbrev ydt:=@Nat.min_def
abbrev db:=@Nat.zero_le
abbrev fa:=@beq_iff_eq
abbrev As:=@false_and
abbrev re:=@and_self
abbrev mM:=@congrArg
abbrev nu:=@or_false
abbrev j6:=@true_and
abbrev au:=@if_neg
abbrev aw:=@if_pos
abbrev fw:=@ne_eq
theorem ay{α β:Type _}{b:β}{x:Option α}{f:α->β}:Option.map f x=some b↔∃a,x=some a/\f a=b:=Option.map_eq_some_iff
theorem az{α β:Type _}{b:β}{x:Option α}{f:α->Option β}:x.bind f=some b↔∃a,x=some a/\f a=some b:=Option.bind_eq_some_iff
theorem yc_{α:Type _}{p:α->Prop}{a:α}{l:List α}:(∀x,x∈a::l->p x)↔p a/\∀x,x∈l->p x:=List.forall_mem_cons
variable{i:Nat}
theorem cF{α:Type _}{l₁ l₂:List α}(h:l₁.length<=i):(l₁++l₂)[i]?=l₂[i-l₁.length]?:=List.getElem?_append_right h
theorem cf{α:Type _}{l₁ l₂:List α}(h:i<l₁.length):(l₁++l₂)[i]?=l₁[i]?:=List.getElem?_append_left h
theorem bZ{α:Type _}{xs:Array α}{d:α}:xs.getD i d=xs[i]?.getD d:=Array.getD_eq_getD_getElem?
theorem ek{α:Type _}{as bs:List α}:(as++bs).length=as.length+bs.length:=List.length_append
theorem cr{α:Type _}(as bs cs:List α):as++bs++cs=as++(bs++cs):=List.append_assoc as bs cs
abbrev Id:=ae
abbrev eq:=List Id
abbrev Ids:=Id->Bool
def Ids.none:Ids:=fun _=>false
def Ids.add(a:Id)(A:Ids):Ids:=fun x=>decide (x=a)||A x
def Ids.del(a:Id)(A:Ids):Ids:=fun x=> !decide (x=a)&&A x
def Ids.or(A A':Ids):Ids:=fun x=>A x||A' x
inductive Tag where
 |nil
 |sub
 |own (a:Id) (sz:Nat)
 deriving Inhabited,DecidableEq
inductive DV where
 |int (k:IntKind) (n:Int)
 |bool (b:Bool)
 |str (s:ByteArray)
 |agg (cs:List DV)
 |sl (g:Tag) (xs:List DV)
 |tup (vs:List DV)
 deriving Inhabited
abbrev yev:=List (Nat×(List DV->Option DV))
abbrev og:=Option (DV×Ids)
abbrev yek:=List (List DV)
abbrev yeg:=Option (List DV)
abbrev cZ:=Option DV
abbrev al:=List DV
inductive AV where
 |d (v:DV)
 |ptr (i off:Nat)
 |ep (cs:al)
 |nilp
 |fn (f:Nat) (cap:List AV)
 |bsl (id:Id) (agg:Bool) (i sz n:Nat)
 |tsl (agg:Bool) (i sz n:Nat)
 |ag (tup:Bool) (cs:List AV)
 |und
 deriving Inhabited
abbrev yeq:=List (List AV)
abbrev yec:=Option (List AV)
abbrev aE:=List (Nat×AV)
abbrev bc:=Option AV
abbrev aA:=List AV
@[simp] abbrev aa(i:Int):AV:=.d (.int .i64 i)
@[simp] abbrev ax(b:Bool):AV:=.d (.bool b)
def DV.cells:DV->al
 | .agg cs=>cs
 |v=>[v]
def DV.isCell:DV->Bool
 | .agg _=>false
 | .tup _=>false
 |_=>true
def AV.cells:AV->aA
 | .d (.agg cs)=>cs.map .d
 | .ag false cs=>cs
 |v=>[v]
def AV.isCell:AV->Bool
 | .d v=>v.isCell
 | .und=>false
 | .ag _ _=>false
 |_=>true
def AV.data:AV->cZ
 | .d v=>some v
 |_=>none
def aV:aA->Option al
 | []=>some []
 | .d v::r=>(aV r).map (v::·)
 |_=>none
abbrev ar:=List (Option aA)
abbrev jV:=Option (AV×ar)
def aT(B:ar)(i:Nat):Option aA:=
 match B[i]? with
 |some (some cs)=>some cs
 |_=>none
def cO(B:ar)(i:Nat):Bool:=
 match B[i]? with
 |some none=>true
 |_=>false
def AV.safe(m:Nat):AV->Bool
 | .d _| .ep _| .nilp| .und=>true
 | .ptr i _=>i<m
 | .fn _ cap=>safes cap
 | .bsl _ _ i _ _=>i<m
 | .tsl _ i _ _=>i<m
 | .ag _ cs=>safes cs
where safes:aA->Bool
 | []=>true
 |a::r=>a.safe m&&safes r
inductive VX where
 |t (n:Nat)
 |c (v:AV)
abbrev i9:=List (Nat×VX)
abbrev iX:=List (Nat×Nat×VX)
abbrev iq:=Option VX
abbrev cm:=List VX
inductive Conv where
 |kind (k:IntKind)
 |bytes
 |rune
inductive VOp where
 |move (x:VX)
 |pick (c a b:VX)
 |alloc (slot:Nat) (zero:al)
 |box (slot:Nat) (x:VX)
 |build (zero:al) (parts:iX)
 |buildSlice (sz:Nat) (zero:DV) (len:Nat) (parts:i9)
 |load (agg:Bool) (sz:Nat) (a:VX)
 |store (init:Bool) (sz:Nat) (a x:VX)
 |storeN (sz:Nat) (a x:VX) (av:ae)
 |nilCheck (x:VX)
 |bin (op:BinOp) (x y:VX)
 |eqAgg (neg:Bool) (ks:ae) (x y:VX)
 |eqB (neg:Bool) (x y:VX)
 |eqNil (neg:Bool) (x:VX)
 |not (x:VX)
 |conv (c:Conv) (x:VX)
 |index (x i:VX)
 |indexAddr (sz:Nat) (arr:a_) (x i:VX)
 |fieldAddr (off:Nat) (x:VX)
 |slice (str:Bool) (sz:Nat) (x:VX) (lo hi:iq)
 |makeFunc (f:Nat) (caps:cm)
 |makeSlice (slot:Nat) (sz bytes:Nat) (zero:DV) (x:VX)
 |extract (x:VX) (i:Nat)
 |call (iso:Bool) (f:VX) (args:cm)
 |callS (c:Nat) (f:VX) (args:cm)
 |loadS (agg:Bool) (sz:Nat) (a:VX) (c:Nat)
 |append1 (sz bytes:Nat) (x y i v:VX) (t9:Nat)
 |append (sz bytes:Nat) (x y:VX)
 |len (str:Bool) (x:VX)
 |fail
structure VOper where
 dst:a_
 op:VOp
 guard:mg:=none
 after:ae:=[]
abbrev tT:=List (Nat×VOper)
abbrev aC:=List VOper
inductive Gho where
 |focR (t:Nat) (live:ae)
 |focC (t off:Nat) (live:ae)
 |frzR (t L:Nat) (live:ae)
 |frzB (t L:Nat) (live:ae)
inductive FOper where
 |one (o:VOper)
 |sl (d1 a d2:Nat) (b:VX) (d3 sz:Nat) (lo hi:iq) (f1 f2 f3:ae)
 |el (d1 q d2:Nat) (b:VX) (d3 sz d4:Nat) (f1 f2 f3 f4:ae)
abbrev eU:=List FOper
def FOper.pre:FOper->aC
 | .one o=>[o]
 | .sl d1 a d2 b _ _ _ _ f1 f2 _=>[⟨some d1,.move (.t a),none,f1⟩,⟨some d2,.move b,none,f2⟩]
 | .el d1 q d2 b d3 sz _ f1 f2 f3 _=>[⟨some d1,.load false 1 (.t q),none,f1⟩,⟨some d2,.move b,none,f2⟩,⟨some d3,.indexAddr sz none (.t d1) (.t d2),none,f3⟩]
def FOper.post:FOper->aC
 | .one _=>[]
 | .sl d1 _ _ _ d3 sz lo hi _ _ f3=>[⟨some d3,.slice false sz (.t d1) lo hi,none,f3⟩]
 | .el _ _ _ _ d3 sz d4 _ _ _ f4=>[⟨some d4,.load true sz (.t d3),none,f4⟩]
def gQ:eU->aC
 | []=>[]
 |f::fs=>f.pre++(f.post++gQ fs)
inductive VCode where
 |skip
 |ret
 |exit (id:Nat)
 |seq (a b:VCode)
 |region (draw:Bool) (na:Nat) (live:ae) (ops:aC)
 |cond (x:VX) (a b:VCode)
 |block (id:Nat) (c:VCode)
 |loop (live:ae) (c:VCode)
 |ghost (x:Gho) (c:VCode)
 |regionT (na:Nat) (live:ae) (pre tl:aC)
 |regionF (draw:Bool) (na:Nat) (live:ae) (fs:eU)
inductive VRes where
 |tmp (t:Nat)
 |cell (t:Nat) (agg:Bool) (sz:Nat)
abbrev fK:=List VRes
structure VFn where
 np:Nat
 results:fK
 code:VCode
abbrev wM:=List (Nat×VFn)
structure St where
 r:aE
 B:ar
 A:Ids
 c:Nat
abbrev lQ:=Option St
inductive Ex where
 |normal
 |exit (id:Nat)
 |ret
 deriving DecidableEq
abbrev rC:=Option (Ex×St)
structure Res where
 v:AV
 A:Ids
 B:ar
abbrev ct:=Id->Nat->aA->ar->Ids->Option Res
def lk:aE->Nat->bc
 | [],_=>none
 |(t,v)::r,n=>if n=t then some v else lk r n
def VX.get(r:aE):VX->bc
 | .t n=>lk r n
 | .c v=>some v
def cmp(op:BinOp)(x y:Int):mx:=
 match op with
 | .eql=>some (x==y)
 | .neq=>some (x !=y)
 | .lss=>some (decide (x<y))
 | .leq=>some (decide (x<=y))
 | .gtr=>some (decide (x>y))
 | .geq=>some (decide (x>=y))
 |_=>none
def bits(op:BinOp)(k:IntKind)(x y:Int):Option Int:=
 let a:=BitVec.ofInt k.bits x
 let b:=BitVec.ofInt k.bits y
 match op with
 | .and=>some (k.wrap (a&&&b).toNat)
 | .or=>some (k.wrap (a|||b).toNat)
 | .xor=>some (k.wrap (a^^^b).toNat)
 | .andNot=>some (k.wrap (a&&& ~~~b).toNat)
 |_=>none
def dm(op:BinOp)(k:IntKind)(x y:Int):cZ:=
 match op with
 | .add=>some (.int k (k.wrap (x+y)))
 | .sub=>some (.int k (k.wrap (x-y)))
 | .mul=>some (.int k (k.wrap (x*y)))
 | .quo=>if y=0 then none else some (.int k (k.wrap (x.tdiv y)))
 | .rem=>if y=0 then none else some (.int k (x.tmod y))
 | .shl=>if y<0 then none else some (.int k (k.wrap (x*2^(min y.toNat k.bits))))
 | .shr=>if y<0 then none else some (.int k (x.fdiv (2^(min y.toNat k.bits))))
 | .and| .or| .xor| .andNot=>(bits op k x y).map (.int k)
 |_=>(cmp op x y).map .bool
def gg(a b:ByteArray):Bool:=a.toList==b.toList
def fV(op:BinOp)(a b:DV):cZ:=
 match a,b with
 | .int k x,.int k' y=>
  match op with
  | .shl=>dm .shl k x y
  | .shr=>dm .shr k x y
  |_=>if k=k' then dm op k x y else none
 | .str a,.str b=>
  match op with
  | .add=>if a.size+b.size<=4611686018427387904 then some (.str (a++b))else none
  | .eql=>some (.bool (gg a b))
  | .neq=>some (.bool !(gg a b))
  |_=>none
 |_,_=>none
def eB:ae->al->al->mx
 | [],[],[]=>some true
 |0::ks,.int k x::r,.int k' y::c=>if k=k' then(if x==y then eB ks r c else(eB ks r c).map fun _=>false)else none
 |1::ks,.bool x::r,.bool y::c=>if x==y then eB ks r c else(eB ks r c).map fun _=>false
 |2::ks,.str x::r,.str y::c=>if gg x y then eB ks r c else(eB ks r c).map fun _=>false
 |_,_,_=>none
variable{α:Type}
def splice(cs:List α)(off:Nat)(new:List α):List α:=cs.take off++new++cs.drop (off+new.length)
def ez(g:VX->bc)(cs:al):iX->Option al
 | []=>some cs
 |(off,size,x)::r=>
  match g x with
  |some (.d v)=>if v.cells.length=size/\off+size<=cs.length/\v.cells.all DV.isCell then ez g (splice cs off v.cells) r else none
  |_=>none
def df(g:VX->bc)(sz:Nat)(xs:al):i9->Option al
 | []=>some xs
 |(i,x)::r=>
  match g x with
  |some (.d v)=>if v.cells.length=sz/\i<xs.length/\v.cells.all DV.isCell then df g sz (xs.set i v) r else none
  |_=>none
def ng(s:ByteArray)(i:Nat):Option Int:=(s[i]?).map fun b=>(b.toNat:Int)
def bytesOf:al->Option (List UInt8)
 | []=>some []
 | .int .u8 n::r=>(bytesOf r).map (UInt8.ofNat n.toNat::·)
 |_=>none
def di(r:aE):cm->Option aA
 | []=>some []
 |x::xs=>(x.get r).bind fun v=>(di r xs).map (v::·)
def cut(agg:Bool)(sz:Nat)(cs:al):cZ:=if agg then(if sz<=cs.length then some (.agg (cs.take sz))else none)else cs[0]?
def j8(v:AV):Option Int:=
 match v with
 | .d (.int _ n)=>some n
 |_=>none
def fk(len:Nat)(hi:bc):a_:=
 match hi with
 |none=>some len
 |some v=>(j8 v).bind fun h=>if 0<=h/\h.toNat<=len then some h.toNat else none
def fj(h:Nat)(lo:bc):a_:=
 match lo with
 |none=>some 0
 |some v=>(j8 v).bind fun l=>if 0<=l/\l.toNat<=h then some l.toNat else none
def dz(r:aE):iq->Option bc
 |none=>some none
 |some x=>(x.get r).map some
def aK(r:aE):VOp->bc
 | .move x=>x.get r
 | .pick c a b=>
  match c.get r with
  |some (.d (.bool true))=>a.get r
  |some (.d (.bool false))=>b.get r
  |_=>none
 | .build zero parts=>(ez (VX.get r) zero parts).map fun cs=> .d (.agg cs)
 | .nilCheck x=>
  match x.get r with
  |some (.ptr i o)=>some (.ptr i o)
  |some (.ep cs)=>some (.ep cs)
  |some (.fn f c)=>some (.fn f c)
  |_=>none
 | .bin op x y=>
  match x.get r,y.get r with
  |some (.d a),some (.d b)=>(fV op a b).map .d
  |_,_=>none
 | .eqAgg neg ks x y=>
  match x.get r,y.get r with
  |some (.d (.agg a)),some (.d (.agg b))=>(eB ks a b).map fun e=> ax (if neg then !e else e)
  |_,_=>none
 | .eqB neg x y=>
  match x.get r,y.get r with
  |some (.d (.bool a)),some (.d (.bool b))=>some (ax (if neg then !(a==b)else(a==b)))
  |_,_=>none
 | .eqNil neg x=>
  match x.get r with
  |some (.d (.sl g _))=>some (ax (if neg then !(g== .nil)else(g== .nil)))
  |_=>none
 | .not x=>
  match x.get r with
  |some (.d (.bool b))=>some (.d (.bool !b))
  |_=>none
 | .conv (.kind k) x=>
  match x.get r with
  |some (.d (.int _ n))=>some (.d (.int k (k.wrap n)))
  |_=>none
 | .conv .rune x=>
  match x.get r with
  |some (.d (.int _ n))=>some (.d (.str (Utf8.encode n)))
  |_=>none
 | .conv .bytes x=>
  match x.get r with
  |some (.d (.sl _ xs))=>(bytesOf xs).map fun bs=> .d (.str ⟨bs.toArray⟩)
  |_=>none
 | .index x i=>
  match x.get r,i.get r with
  |some (.d (.str s)),some (.d (.int _ n))=>if 0<=n then(ng s n.toNat).map fun b=> .d (.int .u8 b)else none
  |_,_=>none
 | .indexAddr sz none x i=>
  match x.get r,i.get r with
  |some (.d (.sl _ xs)),some (.d (.int _ n))=>if 0<=n then(xs[n.toNat]?).bind fun e=>if e.cells.length=sz/\sz≠0 then some (.ep e.cells)else none else none
  |some (.bsl _ _ b j m),some (.d (.int _ n))=>if j=sz/\0<=n/\n<m then some (.ptr b (n.toNat*sz))else none
  |some (.tsl _ b j m),some (.d (.int _ n))=>if j=sz/\0<=n/\n<m then some (.ptr b (n.toNat*sz))else none
  |_,_=>none
 | .indexAddr sz (some m) x i=>
  match x.get r,i.get r with
  |some (.ptr b o),some (.d (.int _ n))=>if 0<=n/\n<m then some (.ptr b (o+n.toNat*sz))else none
  |some (.ep cs),some (.d (.int _ n))=>if 0<=n/\n<m/\n.toNat*sz<=cs.length then some (.ep (cs.drop (n.toNat*sz)))else none
  |_,_=>none
 | .fieldAddr off x=>
  match x.get r with
  |some (.ptr b o)=>some (.ptr b (o+off))
  |some (.ep cs)=>if off<=cs.length then some (.ep (cs.drop off))else none
  |_=>none
 | .slice true _ x lo hi=>
  match x.get r,dz r lo,dz r hi with
  |some (.d (.str s)),some lo,some hi=>(fk s.size hi).bind fun h=>(fj h lo).map fun l=> .d (.str (s.extract l h))
  |_,_,_=>none
 | .slice false sz x lo hi=>
  match x.get r,dz r lo,dz r hi with
  |some (.d (.sl g xs)),some lo,some hi=>if xs.all (fun e=>e.cells.length=sz)then(fk xs.length hi).bind fun h=>(fj h lo).map fun l=> .d (.sl (if g= .nil then .nil else .sub) ((xs.take h).drop l))else none
  |_,_,_=>none
 | .makeFunc f caps=>(di r caps).map fun vs=> .fn f vs
 | .extract x i=>
  match x.get r with
  |some (.d (.tup vs))=>(vs[i]?).map .d
  |some (.ag true vs)=>vs[i]?
  |_=>none
 | .len true x=>
  match x.get r with
  |some (.d (.str s))=>some (aa s.size)
  |_=>none
 | .len false x=>
  match x.get r with
  |some (.d (.sl _ xs))=>some (aa xs.length)
  |some (.bsl _ _ _ _ n)=>some (aa n)
  |some (.tsl _ _ _ n)=>some (aa n)
  |_=>none
 |_=>none
def AV.plainT:AV->Bool
 | .d (.int _ _)=>true
 | .d (.bool _)=>true
 | .d (.str _)=>true
 | .d (.sl _ [])=>true
 | .tsl _ _ _ _=>true
 |_=>false
def jH(cs:aA)(ds:Option al):bc:=
 match ds with
 |some ds=>some (.d (.agg ds))
 |none=>if cs.all AV.plainT then some (.ag false cs)else none
def aP(B:ar)(agg:Bool)(sz i off:Nat):bc:=
 (aT B i).bind fun cs=>if agg then(if off+sz<=cs.length then jH ((cs.drop off).take sz) (aV ((cs.drop off).take sz))else none)else cs[off]?
def St.put(s:St)(dst:a_)(v:AV):St:=
 match dst with
 |some d=>{s with r:=(d,v)::s.r}
 |none=>s
def jr(s:St)(sz i off:Nat)(v:AV):lQ:=
 (aT s.B i).bind fun cs=>
  if v.cells.length=sz/\off+sz<=cs.length/\v.cells.all AV.isCell/\v.safe i then
   some {s with B:=s.B.set i (some (splice cs off v.cells))}
  else none
def fC(s:St)(new:Id)(sz bytes:Nat)(x y:DV):Option (AV×St):=
 match x,y with
 | .sl g xs,.sl _ c=>
  if c.all (fun e=>e.cells.length=sz/\e.cells.all DV.isCell)then
   if c.isEmpty then some (.d (.sl g xs),s)
   else if(xs.length+c.length)*bytes<=140737488355328 then
    match g with
    | .nil=>some (.d (.sl (.own new sz) c),{s with A:=Ids.add new s.A})
    | .own a h=>
     if xs.isEmpty then some (.d (.sl (.own new sz) c),{s with A:=Ids.add new s.A})
     else if h=sz/\s.A a=true then some (.d (.sl (.own new sz) (xs++c)),{s with A:=Ids.add new (Ids.del a s.A)})else none
    | .sub=>none
   else none
  else none
 |_,_=>none
def chunks(agg:Bool)(sz:Nat):Nat->al->Option al
 |0,_=>some []
 |n+1,cs=>(cut agg sz cs).bind fun v=>if v.cells.length=sz/\v.cells.all DV.isCell then(chunks agg sz n (cs.drop sz)).map (v::·)else none
def cQ(f:AV->cZ):aA->Option al
 | []=>some []
 |v::r=>(f v).bind fun d=>(cQ f r).map (d::·)
def AV.frzC(B:ar):Nat->AV->cZ
 |_,.d v=>some v
 |n+1,.tsl agg i sz m=>(aT B i).bind fun cs=>(cQ (AV.frzC B n) cs).bind fun ds=>if ds.length=m*sz then(chunks agg sz m ds).map fun xs=> .sl .sub xs else none
 |_,_=>none
def AV.frz(B:ar):AV->cZ
 | .ag false cs=>(cQ (AV.frzC B B.length) cs).bind fun ds=>if ds.all DV.isCell then some (.agg ds)else none
 |v=>v.frzC B B.length
def b_:DV->Bool
 | .agg _=>true
 |_=>false
mutual
def Ek(b:Nat):DV->aA×ar
 | .agg cs=>ta b cs
 | .sl g []=>([.d (.sl g [])],[])
 | .sl _ (x::xs)=>
  let r:=ta b (x::xs)
  ([.tsl (b_ x) (b+r.2.length) x.cells.length (xs.length+1)],r.2++[some r.1])
 | .tup vs=>([.d (.tup vs)],[])
 | .int k n=>([.d (.int k n)],[])
 | .bool v=>([ax v],[])
 | .str v=>([.d (.str v)],[])
def ta(b:Nat):al->aA×ar
 | []=>([],[])
 |v::r=>
  let p:=Ek b v
  let q:=ta (b+p.2.length) r
  (p.1++q.1,p.2++q.2)
end
def KB(b:Nat)(v:DV):AV×ar:=
 match v with
 | .agg cs=>(.ag false (ta b cs).1,(ta b cs).2)
 |v=>((Ek b v).1.headD .und,(Ek b v).2)
def Dn(b:Nat):al->aA×ar
 | []=>([],[])
 |v::r=>
  let p:=KB b v
  let q:=Dn (b+p.2.length) r
  (p.1::q.1,p.2++q.2)
def DV.thaw(b:Nat)(v:DV):AV×ar:=
 match v with
 | .tup vs=>(.ag true (Dn b vs).1,(Dn b vs).2)
 |v=>KB b v
mutual
def DV.names:DV->Option eq
 | .sl _ []=>some []
 | .sl (.own a _) (x::xs)=>(DV.namess (x::xs)).map (·++[a])
 | .sl _ (_::_)=>none
 | .agg cs=>DV.namess cs
 | .tup _=>none
 | .int _ _=>some []
 | .bool _=>some []
 | .str _=>some []
def DV.namess:al->Option eq
 | []=>some []
 |v::r=>(v.names).bind fun l=>(DV.namess r).map (l++·)
end
def gq(draw init:Bool)(L0 b:Nat):Bool:=draw&&(if init then decide (b<L0)else decide (L0<=b))
def eZ(r:aE)(b:Nat)(av:ae):Bool:=av.all fun t=>match lk r t with
 |some (.ptr c _)=>c !=b
 |_=>false
def aY(call:ct)(p:Id)(draw:Bool)(L0 i:Nat)(o:VOper)(s:St):lQ:=
 match o.op with
 | .alloc k zero=>if cO s.B (L0+k)/\zero.all DV.isCell then some ({s with B:=s.B.set (L0+k) (some (zero.map .d))}.put o.dst (.ptr (L0+k) 0))else none
 | .box k x=>
  (x.get s.r).bind fun v=>
   if cO s.B (L0+k)/\v.cells.all AV.isCell/\v.safe (L0+k)then
    some ({s with B:=s.B.set (L0+k) (some v.cells)}.put o.dst (.ptr (L0+k) 0))
   else none
 | .makeSlice k sz bytes zero x=>
  match x.get s.r with
  |some (.d (.int _ n))=>
   if draw=false/\cO s.B (L0+k)/\0<=n/\n.toNat*bytes<=140737488355328/\n<9223372036854775808/\zero.cells.length=sz/\zero.cells.all DV.isCell then
    some ({s with B:=s.B.set (L0+k) (some (((List.replicate n.toNat zero).flatMap DV.cells).map .d))}.put o.dst
     (.bsl ((s.c+i)::p) (match zero with| .agg _=>true|_=>false) (L0+k) sz n.toNat))
   else none
  |_=>none
 | .load agg sz a=>
  match a.get s.r with
  |some (.ep cs)=>(cut agg sz cs).map fun v=>s.put o.dst (.d v)
  |some (.ptr b off)=>if draw/\L0<=b then none else(aP s.B agg sz b off).map fun v=>s.put o.dst v
  |_=>none
 | .store init sz a x=>
  match a.get s.r,x.get s.r with
  |some (.ptr b off),some v=>if gq draw init L0 b then none else(jr s sz b off v).map fun s=>s.put o.dst .und
  |_,_=>none
 | .storeN sz a x av=>
  match a.get s.r,x.get s.r with
  |some (.ptr b off),some v=>if gq draw false L0 b|| !eZ s.r b av then none else(jr s sz b off v).map fun s=>s.put o.dst .und
  |_,_=>none
 | .buildSlice sz zero len parts=>
  if zero.cells.length=sz/\zero.cells.all DV.isCell/\len*sz<=16777216/\len<=16777216 then
   (df (VX.get s.r) sz (List.replicate len zero) parts).map fun xs=>{s with A:=Ids.add ((s.c+i)::p) s.A}.put o.dst (.d (.sl (.own ((s.c+i)::p) sz) xs))
  else none
 | .append sz bytes x y=>
  match x.get s.r,y.get s.r with
  |some (.d v),some (.d w)=>(fC s ((s.c+i)::p) sz bytes v w).map fun(v,s)=>s.put o.dst v
  |_,_=>none
 | .call iso f args=>
  match f.get s.r,di s.r args with
  |some (.fn k caps),some vs=>
   if iso then
    match aV vs,caps with
    |some _,[]=>
     match call ((s.c+i)::p) k vs [] Ids.none with
     |some {v:= .d v,A,B:=_}=>some ({s with A:=Ids.or A s.A}.put o.dst (.d v))
     |_=>none
    |_,_=>none
   else
    match call ((s.c+i)::p) k (vs++caps) s.B s.A with
    |some {v,A,B}=>some ({s with A:=A,B:=B}.put o.dst v)
    |none=>none
  |_,_=>none
 | .loadS agg sz a c=>
  match a.get s.r,lk s.r c with
  |some (.ptr b off),some (.ptr j _)=>if b=j\/(draw/\L0<=b)then none else(aP s.B agg sz b off).map fun v=>s.put o.dst v
  |_,_=>none
 | .callS c f args=>
  match f.get s.r,di s.r args,lk s.r c with
  |some (.fn k []),some (.ptr b off::vs),some (.ptr j _)=>
   if b≠j then none else(aV vs).bind fun _=>(aT s.B b).bind fun cs=>(aV cs).bind fun _=>
    match call ((s.c+i)::p) k (.ptr 0 off::vs) [some cs] Ids.none with
    |some {v:= .d v,A,B:=[some h]}=>(aV h).map fun _=>{s with B:=s.B.set b (some h),A:=Ids.or A s.A}.put o.dst (.d v)
    |_=>none
  |_,_,_=>none
 | .append1 sz bytes x y l v t9=>
  match x.get s.r,y.get s.r,l.get s.r,v.get s.r with
  |some (.d (.sl g xs)),some (.d (.sl t [z])),some (.d (.int _ n)),some (.d w)=>
   if draw=false/\n=xs.length/\z.cells.length=sz/\z.cells.all DV.isCell=true/\w.cells.length=sz/\w.cells.all DV.isCell=true/\lk s.r t9=none then
    (fC s ((s.c+i)::p) sz bytes (.sl g xs) (.sl t [w])).map fun q=>q.2.put o.dst q.1
   else none
  |_,_,_,_=>none
 |op=>(aK s.r op).map fun v=>s.put o.dst v
def dh(r:aE):mg->mx
 |none=>some true
 |some (t,c)=>
  match lk r t with
  |some (.d (.bool b))=>some (b==c)
  |some .und=>some false
  |_=>none
def cX(call:ct)(p:Id)(draw:Bool)(L0:Nat):Nat->aC->St->lQ
 |_,[],s=>some s
 |i,o::os,s=>
  match dh s.r o.guard with
  |some true=>(aY call p draw L0 i o s).bind (cX call p draw L0 (i+1) os)
  |some false=>cX call p draw L0 (i+1) os (s.put o.dst .und)
  |none=>none
def keep(r:aE):ae->aE
 | []=>[]
 |t::ts=>
  match lk r t with
  |some v=>(t,v)::keep r ts
  |none=>keep r ts
def aG(m:Nat):aE->Bool
 | []=>true
 |(_,v)::r=>v.safe m&&aG m r
def dd:ae->ae
 | []=>[]
 |x::l=>if(dd l).contains x then dd l else x::dd l
theorem vU(x:Nat):∀l:ae,x∈dd l↔x∈l
 | []=>Iff.rfl
 |y::l=>by
  simp only[dd];split
  ·rename_i h
   rw[vU x l,bK];constructor
   ·exact .inr
   ·rintro(rfl|h')
    ·exact(vU x l).1 (by simpa using h)
    ·exact h'
  ·rw[bK,bK,vU x l]
def j5:aC->List ae->List ae
 | [],acc=>acc
 |o::os,acc=>j5 os (acc++[dd (o.after.flatMap fun j=>j::acc.getD j [])])
inductive Kind where
 |pure|read|room|init|row|app|iso|eff
 deriving DecidableEq
def VOp.kind:VOp->Kind
 | .load _ _ _=> .read
 | .alloc _ _| .box _ _=> .room
 | .store init _ _ _=>if init then .init else .eff
 | .storeN _ _ _ _=> .eff
 | .buildSlice _ _ _ _=> .row
 | .append _ _ _ _=> .app
 | .call iso _ _=>if iso then .iso else .eff
 | .makeSlice _ _ _ _ _=> .eff
 | .callS _ _ _=> .eff
 | .append1 _ _ _ _ _ _ _=> .eff
 | .loadS _ _ _ _=> .read
 |_=> .pure
def Kind.meet:Kind->Kind->Bool
 | .pure,_|_,.pure=>true
 | .eff,_|_,.eff=>false
 | .init,.room| .room,.init| .init,.init=>false
 | .app,.row| .row,.app| .app,.app| .app,.iso| .iso,.app=>false
 |_,_=>true
def VX.tmps:VX->ae
 | .t n=>[n]
 | .c _=>[]
def VOp.tmps:VOp->ae
 | .move x| .box _ x| .load _ _ x| .nilCheck x| .not x| .conv _ x| .fieldAddr _ x| .extract x _| .len _ x| .eqNil _ x| .makeSlice _ _ _ _ x=>x.tmps
 | .pick a b c=>a.tmps++b.tmps++c.tmps
 | .alloc _ _| .fail=>[]
 | .build _ ps=>ps.flatMap fun q=>q.2.2.tmps
 | .buildSlice _ _ _ ps=>ps.flatMap fun q=>q.2.tmps
 | .storeN _ a x av=>a.tmps++x.tmps++av
 | .store _ _ a x| .bin _ a x| .eqAgg _ _ a x| .eqB _ a x| .index a x| .indexAddr _ _ a x| .append _ _ a x=>a.tmps++x.tmps
 | .slice _ _ x lo hi=>x.tmps++(lo.toList++hi.toList).flatMap VX.tmps
 | .makeFunc _ cs=>cs.flatMap VX.tmps
 | .call _ f as=>f.tmps++as.flatMap VX.tmps
 | .callS c f as=>f.tmps++as.flatMap VX.tmps++[c]
 | .loadS _ _ a c=>a.tmps++[c]
 | .append1 _ _ x y i v t9=>x.tmps++y.tmps++i.tmps++v.tmps++[t9]
def VOper.looks(o:VOper):ae:=o.op.tmps++(match o.guard with|some (t,_)=>[t]|none=>[])
def p9(a b:VOper):Bool:=
 match a.dst with
 |some t=> !(b.looks.contains t)&& !(b.dst==some t)
 |none=>true
def AK:VOp->VOp->Bool
 | .load _ _ (.t x),.storeN _ _ _ av=>av.contains x
 | .storeN _ _ _ av,.load _ _ (.t x)=>av.contains x
 | .loadS _ _ _ c,.callS c' _ _=>c==c'
 | .callS c' _ _,.loadS _ _ _ c=>c==c'
 | .buildSlice _ _ _ _,.callS _ _ _=>true
 | .callS _ _ _,.buildSlice _ _ _ _=>true
 |_,_=>false
def rK(cl:List ae)(i j:Nat)(a b:VOper):Bool:=(cl.getD j []).contains i||((a.op.kind.meet b.op.kind||AK a.op b.op)&&p9 a b&&p9 b a)
def BD(cl:List ae)(i:Nat)(a:VOper):Nat->aC->Bool
 |_,[]=>true
 |j,b::r=>rK cl i j a b&&BD cl i a (j+1) r
def yw(cl:List ae):Nat->aC->Bool
 |_,[]=>true
 |i,a::r=>BD cl i a (i+1) r&&yw cl (i+1) r
def ahead:Nat->aC->Bool
 |_,[]=>true
 |i,o::r=>o.after.all (fun j=>decide (j<i))&&ahead (i+1) r
def ja(ops:aC):Bool:=ahead 0 ops&&yw (j5 ops []) 0 ops
structure SFn where
 np:Nat
 pre:VCode
 rest:VCode
 results:fK
 row:Nat
 cond:Nat
 srt:Nat
 cmp:Nat
structure Env where
 code:Nat->Option VFn
 nat:Nat->Option (Id->aA->og)
 spec:Nat->Option SFn:=fun _=>none
 base:Nat->a_:=fun _=>none
def DV.like:DV->DV->Bool
 | .int k _,.int k' _=>decide (k=k')
 | .bool _,.bool _=>true
 | .str _,.str _=>true
 | .sl _ _,.sl _ _=>true
 |_,_=>false
mutual
def DV.rest(A:Ids)(a:Id)(rs:al):DV->Bool
 | .agg cs=>DV.rests A a rs cs
 | .tup cs=>DV.rests A a rs cs
 | .sl g xs=>(xs.isEmpty||(xs.flatMap DV.cells).any (fun c=>rs.all fun r=> !c.like r)||(match g with| .own b _=>A b&& !decide (b=a)|_=>false))&&DV.rests A a rs xs
 | .int _ _=>true
 | .bool _=>true
 | .str _=>true
def DV.rests(A:Ids)(a:Id)(rs:al):al->Bool
 | []=>true
 |v::r=>v.rest A a rs&&DV.rests A a rs r
end
def AV.rest(A:Ids)(a:Id)(rs:al):AV->Bool
 | .d v=>v.rest A a rs
 | .ptr _ _=>true
 | .nilp=>true
 | .bsl _ _ _ _ _=>true
 | .tsl _ _ _ _=>true
 | .und=>true
 | .fn _ []=>true
 |_=>false
def xV(A:Ids)(a:Id)(rs:al)(r:aE):Bool:=r.all fun q=>q.2.rest A a rs
def u_(A:Ids)(a:Id)(rs:al)(B:ar):Bool:=B.all fun b=>match b with|none=>true|some cs=>cs.all (AV.rest A a rs)
def dp(L:Nat)(B:ar):ar:=List.replicate L none++B.drop L
def iH(x:Gho)(s:St):lQ:=
 match x with
 | .focR t live=>
  match lk s.r t with
  |some (.d (.sl (.own a sz) (x::xs)))=>
   if s.A a=true/\live.contains t=false/\xV s.A a ((x::xs).flatMap DV.cells) (keep s.r live)=true/\u_ s.A a ((x::xs).flatMap DV.cells) s.B=true/\DV.rests s.A a ((x::xs).flatMap DV.cells) ((x::xs).flatMap DV.cells)=true then
    some ⟨(t,.tsl (b_ x) s.B.length sz (xs.length+1))::keep s.r live,s.B++[some (((x::xs).flatMap DV.cells).map .d)],Ids.del a s.A,s.c⟩
   else none
  |_=>none
 | .focC t off live=>
  match lk s.r t with
  |some (.ptr (j+1) o)=>
   (aT s.B (j+1)).bind fun cs=>
    match cs[o+off]? with
    |some (.d (.sl (.own a sz) (x::xs)))=>
     if s.A a=true/\cO s.B j=true/\xV s.A a ((x::xs).flatMap DV.cells) (keep s.r live)=true/\
      u_ s.A a ((x::xs).flatMap DV.cells) (s.B.set (j+1) (some (cs.set (o+off) (.tsl (b_ x) j sz (xs.length+1)))))=true/\DV.rests s.A a ((x::xs).flatMap DV.cells) ((x::xs).flatMap DV.cells)=true then
      some ⟨keep s.r live,(s.B.set (j+1) (some (cs.set (o+off) (.tsl (b_ x) j sz (xs.length+1))))).set j (some (((x::xs).flatMap DV.cells).map .d)),Ids.del a s.A,s.c⟩
     else none
    |_=>none
  |_=>none
 | .frzR t L live=>
  match lk s.r t with
  |some v=>
   if live.contains t=false/\aG L (keep s.r live)=true/\L<=s.B.length then
    (v.frz (dp L s.B)).map fun d=>⟨(t,.d d)::keep s.r live,s.B.take L,s.A,s.c⟩
   else none
  |none=>none
 | .frzB t L live=>
  match lk s.r t with
  |some (.ptr i 0)=>
   if L<=i/\live.contains t=false/\aG L (keep s.r live)=true/\L<=s.B.length then
    (aT s.B i).bind fun cs=>(cQ (AV.frzC (dp L s.B) s.B.length) cs).bind fun ds=>if ds.all DV.isCell then some ⟨(t,.ptr L 0)::keep s.r live,s.B.take L++[some (ds.map .d)],s.A,s.c⟩else none
   else none
  |_=>none
def Gho.low:Gho->Nat->Bool
 | .focR _ _,_=>true
 | .focC _ _ _,_=>true
 | .frzR _ L _,m=>decide (m<=L)
 | .frzB _ L _,m=>decide (m<=L)
def oH(call:ct)(p:Id)(na:Nat)(live:ae)(pre tl:aC)(s:St):lQ:=
 if ja pre=false then none
 else(cX call p true s.B.length 0 pre {s with B:=s.B++List.replicate na none}).bind fun s1=>(cX call p false s.B.length pre.length tl s1).map fun s2=>{s2 with r:=keep s2.r live,c:=s.c+(pre.length+tl.length)}
def VCode.plain:VCode->Bool
 | .seq a b=>a.plain&&b.plain
 | .cond _ a b=>a.plain&&b.plain
 | .block _ c=>c.plain
 | .loop _ c=>c.plain
 | .ghost _ _=>false
 |_=>true
def VCode.over(m:Nat):VCode->Bool
 | .seq a b=>a.over m&&b.over m
 | .cond _ a b=>a.over m&&b.over m
 | .block _ c=>c.over m
 | .loop _ c=>c.over m
 | .ghost x c=>x.low m&&c.over m
 |_=>true
def L6(b:a_)(c:VCode):Bool:=
 match b with
 |none=>c.plain
 |some m=>c.over m
def sD(c:Nat)(live:ae)(s:St):lQ:=
 let r:=keep s.r live
 if aG c r/\c<=s.B.length then some {s with r:=r,B:=s.B.take c}else none
def jP(f:St->rC)(c:Nat)(live:ae):Nat->St->rC
 |0,_=>none
 |n+1,s=>
  (sD c live s).bind fun s0=>
   (f s0).bind fun r=>
    match r.1 with
    | .normal=>jP f c live n r.2
    |_=>some r
def jb(call:ct)(p:Id)(draw:Bool)(na:Nat)(live:ae)(ops:aC)(s:St):lQ:=
 if draw&& !ja ops then none
 else(cX call p draw s.B.length 0 ops {s with B:=s.B++List.replicate na none}).map fun s'=>{s' with r:=keep s'.r live,c:=s.c+ops.length}
def bQ(call:ct)(p:Id)(n:Nat):VCode->St->rC
 | .skip,s=>some (.normal,s)
 | .ret,s=>some (.ret,s)
 | .exit id,s=>some (.exit id,s)
 | .seq a b,s=>
  (bQ call p n a s).bind fun r=>
   match r.1 with
   | .normal=>bQ call p n b r.2
   |_=>some r
 | .region draw na live ops,s=>(jb call p draw na live ops s).map fun s'=>(.normal,s')
 | .cond x a b,s=>
  match x.get s.r with
  |some (.d (.bool true))=>bQ call p n a s
  |some (.d (.bool false))=>bQ call p n b s
  |_=>none
 | .block id c,s=>(bQ call p n c s).map fun r=>if r.1= .exit id then(.normal,r.2)else r
 | .loop live c,s=>jP (bQ call p n c) s.B.length live n s
 | .ghost x c,s=>(iH x s).bind (bQ call p n c)
 | .regionT na live pre tl,s=>(oH call p na live pre tl s).map fun s'=>(.normal,s')
 | .regionF draw na live fs,s=>(jb call p draw na live (gQ fs) s).map fun s'=>(.normal,s')
def jU(s:St):VRes->bc
 | .tmp t=>lk s.r t
 | .cell t agg sz=>
  match lk s.r t with
  |some (.ptr i off)=>aP s.B agg sz i off
  |_=>none
def jS(s:St):fK->Option aA
 | []=>some []
 |x::xs=>(jU s x).bind fun v=>(jS s xs).map (v::·)
def finish(L:Nat)(p:Id)(s:St)(rs:fK):Option Res:=
 match jS s rs with
 |some [.d v]=>some ⟨.d v,s.A,s.B.take L⟩
 |some [.ptr i off]=>some ⟨.ptr i off,s.A,s.B⟩
 |some [.bsl _ agg i sz n]=>
  if L<=i/\n<9223372036854775808 then
   ((aT s.B i).bind aV).bind fun cs=>if cs.length=n*sz then(chunks agg sz n cs).map fun xs=>⟨.d (.sl (.own (s.c::p) sz) xs),Ids.add (s.c::p) s.A,s.B.take L⟩else none
  else none
 |some [_]=>none
 |some vs=>(aV vs).map fun ds=>⟨.d (.tup ds),s.A,s.B.take L⟩
 |none=>none
def bo:Nat->aA->aE
 |_,[]=>[]
 |i,v::r=>(i,v)::bo (i+1) r
def DV.flat:DV->Bool
 | .int _ _=>true
 | .bool _=>true
 | .str _=>true
 | .sl _ []=>true
 |_=>false
def lM(call:ct)(p:Id)(sf:SFn)(A:Ids)(a:Id)(x:DV)(xr:al):Option (al×Ids):=
 (DV.namess (x::xr)).bind fun l=>
  if A a=true/\l.all A=true/\l.contains a=false then
   match call p sf.srt [.tsl true 0 x.cells.length (xr.length+1),.fn sf.cmp []] [some (((x::xr).flatMap DV.cells).map .d)] (fun b=>l.contains b)with
   |some ⟨_,j,[some cs]⟩=>(aV cs).bind fun c=>if c.length=(xr.length+1)*x.cells.length then(chunks true x.cells.length (xr.length+1) c).map fun h=>(h,Ids.add a j)else none
   |_=>none
  else none
def po(s:St):Option (DV×DV):=
 match lk s.r 3,lk s.r 4,s.B with
 |some (.ptr 0 0),some (.ptr 1 0),[some [.d h,.d c,_],some [.d p,.d j,.d l]]=>if h.flat&&c.flat&&p.flat&&j.flat&&l.flat&&h.isCell&&c.isCell then some (h,c)else none
 |_,_,_=>none
def mO(call:ct)(n:Nat)(p:Id)(sf:SFn)(ds:al):og:=
 if ds.length≠sf.np then none else
  (bQ call p n sf.pre ⟨bo 0 (ds.map .d),[],Ids.none,0⟩).bind fun r=>
   match r.1,lk r.2.r sf.cond,lk r.2.r sf.row with
   | .normal,some (.d (.bool true)),some (.d (.sl (.own a sz) (x::xr)))=>(po r.2).bind fun y=>(lM call ((r.2.c+1)::p) sf r.2.A a x xr).map fun q=>(.agg [y.1,y.2,.sl (.own a sz) q.1],q.2)
   | .normal,some (.d (.bool false)),_| .normal,some (.d (.bool true)),some (.d (.sl _ []))=>
    (bQ call p n sf.rest r.2).bind fun h=>
     match h.1 with
     | .exit _=>none
     |_=>(finish 0 p h.2 sf.results).bind fun q=>match q.v with
      | .d v=>some (v,q.A)
      |_=>none
   |_,_,_=>none
def eg(E:Env):Nat->ct
 |0,_,_,_,_,_=>none
 |n+1,p,f,args,B,A=>
  match E.nat f with
  |some g=>(aV args).bind fun _=>(g p args).map fun r=>⟨.d r.1,Ids.or r.2 A,B⟩
  |none=>
   match E.code f with
   |none=>
    match E.spec f with
    |none=>none
    |some sf=>(aV args).bind fun ds=>(mO (eg E n) n p sf ds).map fun r=>⟨.d r.1,Ids.or r.2 A,B⟩
   |some vf=>
    if args.length≠vf.np then none else
     match E.base f with
     |none=>(bQ (eg E n) p n vf.code ⟨bo 0 args,B,A,0⟩).bind fun r=>
      match r.1 with
      | .exit _=>none
      |_=>finish B.length p r.2 vf.results
     |some m=>if B.length≠m then none else(bQ (eg E n) p n vf.code ⟨bo 0 args,B,Ids.none,0⟩).bind fun r=>
      match r.1 with
      | .exit _=>none
      |_=>(finish B.length p r.2 vf.results).map fun q=>⟨q.v,Ids.or q.A A,q.B⟩
def GH(d c1 h j:VCode)(srt cmp:Nat):VFn:=⟨2,[.cell 4 true 3],.seq d (.seq c1 (.seq h (.seq
 (.seq j (.cond (.t 42) (.region false 0 [3,4,5] [⟨some 43,.move (.t 5),none,[]⟩,⟨some 44,.call false (.c (.fn srt [])) [.t 43,.c (.fn cmp [])],none,[]⟩]) .skip))
 (.seq (.region false 0 [3,4] [⟨some 45,.move (.t 5),none,[]⟩,⟨some 46,.fieldAddr 2 (.t 3),none,[]⟩,⟨none,.store false 1 (.t 46) (.t 45),none,[]⟩])
 (.seq (.region false 0 [4] [⟨some 47,.load true 3 (.t 3),none,[]⟩,⟨none,.store false 3 (.t 4) (.t 47),none,[]⟩]) .ret)))))⟩
def iU(d c1 h j:VCode)(srt cmp:Nat):SFn:=⟨2,.seq d (.seq c1 (.seq h j)),
 .seq (.cond (.t 42) (.region false 0 [3,4,5] [⟨some 43,.move (.t 5),none,[]⟩,⟨some 44,.call false (.c (.fn srt [])) [.t 43,.c (.fn cmp [])],none,[]⟩]) .skip)
 (.seq (.region false 0 [3,4] [⟨some 45,.move (.t 5),none,[]⟩,⟨some 46,.fieldAddr 2 (.t 3),none,[]⟩,⟨none,.store false 1 (.t 46) (.t 45),none,[]⟩])
 (.seq (.region false 0 [4] [⟨some 47,.load true 3 (.t 3),none,[]⟩,⟨none,.store false 3 (.t 4) (.t 47),none,[]⟩]) .ret)),[.cell 4 true 3],5,42,srt,cmp⟩
def sb:List (Nat×SFn)->Nat->Option SFn
 | [],_=>none
 |(k,v)::r,n=>if n=k then some v else sb r n
theorem F0:∀{l:List (Nat×SFn)} {k:Nat} {v:SFn},sb l k=some v->(k,v)∈l
 | [],_,_,h=>by simp[sb]at h
 |(a,u)::r,k,v,h=>by
  simp only[sb]at h;split at h
  ·rename_i c
   simp at h;subst h;subst c;simp
  ·exact em _ (F0 h)
variable{c':ct}{n m f:Nat}
section
open Classical
def ma(c c':ct):Prop:=∀p f as B O r,c p f as B O=some r->c' p f as B O=some r
def hO{σ τ:Type}(f g:σ->Option τ):Prop:=∀s r,f s=some r->g s=some r
theorem QV{c:ct}(h:ma c c')(p:Id)(draw:Bool)(L0 i:Nat)(o:VOper):hO (aY c p draw L0 i o) (aY c' p draw L0 i o):=by
 intro s r hr;obtain⟨dst,op,g,af⟩:=o;cases op
 case call iso f args=>
  simp only[aY]at hr⊢
  split at hr
  ·rename_i k caps vs q l
   split at hr
   ·rename_i d
    simp only[d,if_true];split at hr
    ·rename_i ds C j
     split at hr
     ·rename_i v A B hc
      rw[h _ _ _ _ _ _ hc];exact hr
     ·simp at hr
    ·simp at hr
   ·rename_i d
    simp only[d];split at hr
    ·rename_i hc
     rw[h _ _ _ _ _ _ hc];exact hr
    ·simp at hr
  ·simp at hr
 case callS cc f args=>
  simp only[aY]at hr⊢
  split at hr
  ·split at hr
   ·simp at hr
   rename_i z;rw[au z];obtain⟨ds,q,hr⟩:=az.1 hr;obtain⟨cs,l,hr⟩:=az.1 hr;obtain⟨D,t,hr⟩:=az.1 hr;rw[q,a9,l,a9,t,a9];split at hr
   ·rename_i hc
    rw[h _ _ _ _ _ _ hc];exact hr
   ·simp at hr
  ·simp at hr
 all_goals exact hr
theorem DK{c:ct}(h:ma c c')(p:Id)(draw:Bool)(L0:Nat)(os:aC):∀i,hO (cX c p draw L0 i os) (cX c' p draw L0 i os):=by
 induction os with
 |nil=>intro i s r hr;exact hr
 |cons o os d=>
  intro i s r hr;simp only[cX]at hr⊢
  split at hr
  ·obtain⟨s1,l,j⟩:=az.1 hr
   exact az.2 ⟨s1,QV h p draw L0 i o s s1 l,d _ _ _ j⟩
  ·exact d _ _ _ hr
  ·simp at hr
theorem Jr{c:ct}(h:ma c c')(p:Id)(draw:Bool)(na:Nat)(live:ae)(ops:aC):hO (jb c p draw na live ops) (jb c' p draw na live ops):=by
 intro s r hr;unfold jb at hr⊢
 split
 ·simp_all
 ·rename_i d
  simp only[d]at hr;obtain⟨s1,l,j⟩:=ay.1 hr;exact ay.2 ⟨s1,DK h p draw _ ops 0 _ _ l,j⟩
theorem qzR{f g:St->rC}(h:hO f g)(c:Nat)(live:ae):∀n m,n<=m->hO (jP f c live n) (jP g c live m):=by
 intro n
 induction n with
 |zero=>intro m _ s r hr;simp[jP]at hr
 |succ n l=>
  intro m p s r hr;obtain⟨m,rfl⟩:∃k,m=k+1:=⟨m-1,by omega⟩;simp only[jP]at hr⊢
  obtain⟨s0,j,hr⟩:=az.1 hr;obtain⟨⟨e,s1⟩,d,hr⟩:=az.1 hr;refine az.2 ⟨s0,j,az.2 ⟨(e,s1),h _ _ d,?_⟩⟩;cases e with
  |normal=>exact l m (by omega) _ _ hr
  |exit id=>exact hr
  |ret=>exact hr
theorem ul{c:ct}(h:ma c c')(p:Id)(F:n<=m)(vc:VCode):hO (bQ c p n vc) (bQ c' p m vc):=by
 induction vc with
 |skip=>intro s r hr;exact hr
 |ret=>intro s r hr;exact hr
 |exit id=>intro s r hr;exact hr
 |seq a b q l=>
  intro s r hr;simp only[bQ]at hr⊢
  obtain⟨⟨e,s1⟩,d,hr⟩:=az.1 hr;refine az.2 ⟨(e,s1),q _ _ d,?_⟩;cases e with
  |normal=>exact l _ _ hr
  |exit id=>exact hr
  |ret=>exact hr
 |region draw na live ops=>
  intro s r hr;simp only[bQ]at hr⊢
  obtain⟨s1,d,j⟩:=ay.1 hr;exact ay.2 ⟨s1,Jr h p draw na live ops _ _ d,j⟩
 |regionF draw na live fs=>
  intro s r hr;simp only[bQ]at hr⊢
  obtain⟨s1,d,j⟩:=ay.1 hr;exact ay.2 ⟨s1,Jr h p draw na live (gQ fs) _ _ d,j⟩
 |cond x a b q l=>
  intro s r hr;simp only[bQ]at hr⊢
  split at hr
  ·exact q _ _ hr
  ·exact l _ _ hr
  ·simp at hr
 |block id C t=>
  intro s r hr;simp only[bQ]at hr⊢
  obtain⟨s1,d,j⟩:=ay.1 hr;exact ay.2 ⟨s1,t _ _ d,j⟩
 |loop live C t=>
  intro s r hr;simp only[bQ]at hr⊢
  exact qzR t _ _ n m F _ _ hr
 |ghost x C t=>
  intro s r hr;simp only[bQ]at hr⊢
  obtain⟨s1,d,j⟩:=az.1 hr;exact az.2 ⟨s1,d,t _ _ j⟩
 |regionT na live pre tl=>
  intro s r hr;simp only[bQ]at hr⊢
  obtain⟨s1,d,j⟩:=ay.1 hr;refine ay.2 ⟨s1,?_,j⟩;unfold oH at d⊢
  split
  ·rename_i z;rw[aw z]at d;simp at d
  ·rename_i z
   rw[au z]at d;obtain⟨s2,D,H⟩:=az.1 d;obtain⟨s3,G,I⟩:=ay.1 H;exact az.2 ⟨s2,DK h p true _ pre 0 _ _ D,ay.2 ⟨s3,DK h p false _ tl _ _ _ G,I⟩⟩
theorem RI{c:ct}(h:ma c c')(p:Id)(sf:SFn)(A:Ids)(a:Id)(x:DV)(xr:al):∀r,lM c p sf A a x xr=some r->lM c' p sf A a x xr=some r:=by
 intro r hr;unfold lM at hr⊢
 obtain⟨l,d,hr⟩:=az.1 hr;refine az.2 ⟨l,d,?_⟩;split at hr
 ·rename_i hc
  rw[aw hc];split at hr
  ·rename_i v q cs j
   rw[h _ _ _ _ _ _ j];exact hr
  ·simp at hr
 ·simp at hr
theorem P8{c:ct}(h:ma c c')(z:n<=m)(p:Id)(sf:SFn)(ds:al):∀r,mO c n p sf ds=some r->mO c' m p sf ds=some r:=by
 intro r hr;unfold mO at hr⊢
 split at hr
 ·simp at hr
 rename_i t;rw[au t];obtain⟨⟨e,s⟩,D,d⟩:=az.1 hr;refine az.2 ⟨(e,s),ul h p z sf.pre _ _ D,?_⟩;simp only at d⊢
 split at d
 ·rename_i a sz x xr C H
  obtain⟨y,G,F⟩:=az.1 d;obtain⟨q,j,l⟩:=ay.1 F;exact az.2 ⟨y,G,ay.2 ⟨q,RI h _ _ _ _ _ _ _ j,l⟩⟩
 ·rename_i C
  obtain⟨q,j,l⟩:=az.1 d;exact az.2 ⟨q,ul h p z sf.rest _ _ j,l⟩
 ·rename_i g C H
  obtain⟨q,j,l⟩:=az.1 d;exact az.2 ⟨q,ul h p z sf.rest _ _ j,l⟩
 ·simp at d
theorem Yn(E:Env):∀n,ma (eg E n) (eg E (n+1)):=by
 intro n
 induction n with
 |zero=>intro p f as B O r hr;simp[eg]at hr
 |succ n t=>
  intro p f as B O r hr;rw[eg]at hr⊢
  split
  ·rename_i g l
   rw[l]at hr;exact hr
  ·rename_i l
   simp only[l]at hr;split
   ·rename_i h
    simp only[h]at hr;split
    ·rename_i j;simp[j]at hr
    ·rename_i sf j
     simp only[j]at hr;obtain⟨ds,d,c⟩:=az.1 hr;obtain⟨q,z,D⟩:=ay.1 c;exact az.2 ⟨ds,d,ay.2 ⟨q,P8 t (ch n) p sf ds _ z,D⟩⟩
   ·rename_i vf h
    simp only[h]at hr;split at hr
    ·simp at hr
    ·rename_i s
     rw[au s];split at hr
     ·rename_i C
      obtain⟨s1,d,c⟩:=az.1 hr;exact az.2 ⟨s1,ul t p (ch n) vf.code _ _ d,c⟩
     ·rename_i m C
      split at hr
      ·simp at hr
      rename_i F;rw[au F];obtain⟨s1,d,c⟩:=az.1 hr;exact az.2 ⟨s1,ul t p (ch n) vf.code _ _ d,c⟩
theorem RX(E:Env)(h:n<=m):ma (eg E n) (eg E m):=by
 induction h with
 |refl=>intro p f as B O r hr;exact hr
 |step _ c=>intro p f as B O r hr;exact Yn E _ _ _ _ _ _ _ (c _ _ _ _ _ _ hr)
noncomputable def lim(f:Nat->Option α):Option α:=if h:∃n,(f n).isSome then f (Classical.choose h)else none
theorem xI{f:Nat->Option α}(l:∀n m r,n<=m->f n=some r->f m=some r)(r:α):lim f=some r↔∃n,f n=some r:=by
 unfold lim;split
 ·rename_i h
  have p:=Classical.choose_spec h;obtain⟨x,j⟩:=oU.1 p;constructor
  ·intro e;exact⟨_,e⟩
  ·rintro⟨n,d⟩
   rcases Nat.le_total n (Classical.choose h)with c|c
   ·exact l _ _ _ c d
   ·have:=l _ _ _ c j
    rw[d]at this;rw[j,<-this]
 ·rename_i h
  constructor
  ·intro e;simp at e
  ·rintro⟨n,d⟩;exact absurd ⟨n,by simp[d]⟩ h
noncomputable def qo(E:Env):ct:=fun p f as B O=>lim fun n=>eg E n p f as B O
theorem JY{E:Env}{p:Id}{as:aA}{B:ar}{O:Ids}{r:Res}:qo E p f as B O=some r↔∃n,eg E n p f as B O=some r:=xI (fun n m r h hr=>RX E h _ _ _ _ _ _ hr) r
theorem jw{a b:Option α}(h:∀r,a=some r↔b=some r):a=b:=by
 cases a with
 |none=>cases b with
  |none=>rfl
  |some x=>exact absurd ((h x).2 rfl) (by simp)
 |some x=>exact((h x).1 rfl).symm
end
theorem aW(k:IntKind)(n:Int):(DV.int k n).isCell=true:=rfl
theorem OQ(b:Bool):(DV.bool b).isCell=true:=rfl
theorem qz5(s:ByteArray):(DV.str s).isCell=true:=rfl
theorem ba(g:Tag)(xs:al):(DV.sl g xs).isCell=true:=rfl
theorem bh(v:DV):(AV.d v).isCell=v.isCell:=rfl
theorem VF(i o:Nat):(AV.ptr i o).isCell=true:=rfl
theorem qz6(f:Nat)(c:aA):(AV.fn f c).isCell=true:=rfl
theorem Z3(k:IntKind)(n:Int):(DV.int k n).cells=[.int k n]:=rfl
theorem O7(b:Bool):(DV.bool b).cells=[.bool b]:=rfl
theorem SS(s:ByteArray):(DV.str s).cells=[.str s]:=rfl
theorem QK(g:Tag)(xs:al):(DV.sl g xs).cells=[.sl g xs]:=rfl
theorem qHH(cs:al):(DV.agg cs).cells=cs:=rfl
theorem QM(k:IntKind)(n:Int):(AV.d (.int k n)).cells=[.d (.int k n)]:=rfl
theorem Sb(b:Bool):(AV.d (.bool b)).cells=[ax b]:=rfl
theorem UJ(s:ByteArray):(AV.d (.str s)).cells=[.d (.str s)]:=rfl
theorem Zu(g:Tag)(xs:al):(AV.d (.sl g xs)).cells=[.d (.sl g xs)]:=rfl
theorem So(cs:al):(AV.d (.agg cs)).cells=cs.map .d:=rfl
theorem U6(i o:Nat):(AV.ptr i o).cells=[.ptr i o]:=rfl
theorem WG(f:Nat)(c:aA):(AV.fn f c).cells=[.fn f c]:=rfl
theorem bd(m:Nat)(v:DV):(AV.d v).safe m=true:=by unfold AV.safe;rfl
theorem Ny(m i o:Nat):(AV.ptr i o).safe m=decide (i<m):=by unfold AV.safe;rfl
theorem ic(m f:Nat)(c:aA):(AV.fn f c).safe m=AV.safe.safes m c:=by rw[AV.safe]
theorem VT(m:Nat)(id:Id)(a:Bool)(i sz n:Nat):(AV.bsl id a i sz n).safe m=decide (i<m):=by unfold AV.safe;rfl
theorem fe(m:Nat)(a:Bool)(i sz n:Nat):(AV.tsl a i sz n).safe m=decide (i<m):=by unfold AV.safe;rfl
theorem gJ(m:Nat):AV.safe.safes m []=true:=by unfold AV.safe.safes;rfl
theorem Ir(m:Nat)(a:AV)(r:aA):AV.safe.safes m (a::r)=(a.safe m&&AV.safe.safes m r):=by rw[AV.safe.safes]
theorem Ol(op:BinOp)(k:IntKind)(x y:Int):fV op (.int k x) (.int k y)=dm op k x y:=by cases op<;>first|rfl|exact aw rfl
theorem NP(k k':IntKind)(x y:Int):fV .shr (.int k x) (.int k' y)=dm .shr k x y:=rfl
theorem UQ(k:IntKind)(x y:Int):dm .add k x y=some (.int k (k.wrap (x+y))):=rfl
theorem Vh(k:IntKind)(x y:Int):dm .sub k x y=some (.int k (k.wrap (x-y))):=rfl
theorem TA(k:IntKind)(x y:Int):dm .mul k x y=some (.int k (k.wrap (x*y))):=rfl
theorem Y9(k:IntKind)(x y:Int):dm .eql k x y=some (.bool (x==y)):=rfl
theorem QY(k:IntKind)(x y:Int):dm .neq k x y=some (.bool (x !=y)):=rfl
theorem RP(k:IntKind)(x y:Int):dm .lss k x y=some (.bool (decide (x<y))):=rfl
theorem qG2(k:IntKind)(x y:Int):dm .leq k x y=some (.bool (decide (x<=y))):=rfl
theorem qG3(k:IntKind)(x y:Int):dm .gtr k x y=some (.bool (decide (x>y))):=rfl
theorem Tg(k:IntKind)(x y:Int):dm .geq k x y=some (.bool (decide (x>=y))):=rfl
theorem T9(n:Nat):lk [] n=none:=rfl
theorem Zw(t:Nat)(v:AV)(r:aE)(n:Nat):lk ((t,v)::r) n=if n=t then some v else lk r n:=rfl
theorem WM(r:aE)(n:Nat):VX.get r (.t n)=lk r n:=rfl
theorem Uv(r:aE)(v:AV):VX.get r (.c v)=some v:=rfl
theorem qKw(r:aE):keep r []=[]:=rfl
theorem qGf(r:aE)(t:Nat)(ts:ae):keep r (t::ts)=match lk r t with|some v=>(t,v)::keep r ts|none=>keep r ts:=rfl
def GC(v:bc)(w:Bool):mx:=
 match v with
 |some (.d (.bool b))=>some (b==w)
 |some .und=>some false
 |_=>none
theorem qTV(r:aE):dh r none=some true:=rfl
theorem qTU(r:aE)(t:Nat)(w:Bool):dh r (some (t,w))=GC (lk r t) w:=rfl
theorem qTW(b w:Bool):GC (some (ax b)) w=some (b==w):=rfl
theorem qYQ(w:Bool):GC (some .und) w=some false:=rfl
def runN{β γ:Type}(step:β->Nat->β⊕γ):Nat->β->Nat->β⊕γ
 |0,a,_=> .inl a
 |k+1,a,i=>match step a i with
  | .inl a'=>runN step k a' (i+1)
  | .inr r=> .inr r
variable{w w' w'':World}{u:Value}{A':Ids}{N:Id->Prop}
section
structure Gh where
 K:Nat->Nat
 row:Id->Option (Nat×Nat×Nat×Nat)
 bx:Nat->a_
inductive VR(g:Gh)(w:World):DV->Value->Prop where
 |int (k:IntKind) (n:Int):VR g w (.int k n) (.int k n)
 |bool (b:Bool):VR g w (.bool b) (.bool b)
 |str (s:ByteArray):VR g w (.str s) (.string s)
 |agg (cs:al) (us:cA):us.size=cs.length->(∀v:DV,v∈cs->v.isCell=true)->(∀(j:Nat) (v:DV) (u:Value),cs[j]?=some v->us[j]?=some u->VR g w v u)->VR g w (.agg cs) (.agg us)
 |tup (cs:al) (us:cA):us.size=cs.length->(∀(j:Nat) (v:DV) (u:Value),cs[j]?=some v->us[j]?=some u->VR g w v u)->VR g w (.tup cs) (.tuple us)
 |nil:VR g w (.sl .nil []) (.slice none 0 0)
 |row (t:Tag) (xs:al) (ad:Addr) (c s:Nat) (U:Nat->Value):t≠.nil->xs.length<=c->c<=maxLen->
  (∀k,k<xs.length*s->w.cell? (ad.add k)=some (U k))->(xs.length*s=0\/ad.off+xs.length*s<=g.K ad.block)->
  (∀(i:Nat) (x:DV),xs[i]?=some x->x.cells.length=s/\∀v:DV,v∈x.cells->v.isCell=true)->
  (∀(i:Nat) (x:DV) (j:Nat) (v:DV),xs[i]?=some x->x.cells[j]?=some v->VR g w v (U (i*s+j)))->
  (∀a sz,t= .own a sz->ad.off=0/\ad.spot=none/\s=sz/\g.row a=some (ad.block,xs.length,c,s)/\(xs=[]->c=0))->
  VR g w (.sl t xs) (.slice (some ad) xs.length c)
structure ExtV(g:Gh)(w:World)(g':Gh)(w':World):Prop where
 K:∀b,g.K b<=g'.K b
 cell:∀ad:Addr,ad.off<g.K ad.block->w'.cell? ad=w.cell? ad
 row:∀a x,g.row a=some x->g'.row a=some x
theorem ExtV.refl(g:Gh)(w:World):ExtV g w g w:=⟨fun _=>bf _,fun _ _=>rfl,fun _ _ h=>h⟩
theorem ExtV.trans{g g' c:Gh}(h:ExtV g w g' w')(h':ExtV g' w' c w''):ExtV g w c w'':=⟨fun b=>cT (h.K b) (h'.K b),fun ad d=>(h'.cell ad (nt d (h.K _))).trans (h.cell ad d),fun a x j=>h'.row a x (h.row a x j)⟩
theorem add_block(ad:Addr)(k:Nat):(ad.add k).block=ad.block:=by unfold Addr.add;split<;>rfl
theorem nL(ad:Addr)(k:Nat):(ad.add k).off=ad.off+k:=by unfold Addr.add;split<;>simp_all
theorem VR.mono{g g':Gh}(e:ExtV g w g' w'){v:DV}(h:VR g w v u):VR g' w' v u:=by
 induction h with
 |int k n=>exact .int k n
 |bool b=>exact .bool b
 |str s=>exact .str s
 |agg cs us p hc _ l=>exact .agg cs us p hc l
 |tup cs us p _ l=>exact .tup cs us p l
 |nil=>exact .nil
 |row t xs ad c s U C J O d D hc _ j l=>
  refine .row t xs ad c s U C J O (fun k q=> ?_) (D.imp_right fun h=>cT h (e.K _)) hc l (fun a sz M=> ?_)
  ·rw[e.cell _ (by rw[add_block,nL];omega)]
   exact d k q
  ·obtain⟨F,I,z,H,G⟩:=j a sz M
   exact⟨F,I,z,e.row _ _ H,G⟩
variable (fid:Nat->FuncId)
inductive AVR(g:Gh)(w:World):AV->Value->Prop where
 |d (v:DV) (u:Value):VR g w v u->AVR g w (.d v) u
 |ptr (i off b:Nat):g.bx i=some b->AVR g w (.ptr i off) (.pointer (some ⟨b,off,none⟩))
 |ep (cs:al) (ad:Addr) (U:Nat->Value):ad.spot=none->ad.off+cs.length<=g.K ad.block->(∀(j:Nat) (v:DV),cs[j]?=some v->w.cell? (ad.add j)=some (U j)/\v.isCell=true/\VR g w v (U j))->AVR g w (.ep cs) (.pointer (some ad))
 |nilp:AVR g w .nilp (.pointer none)
 |fn (f:Nat) (cap:aA) (us:cA):us.size=cap.length->(∀(j:Nat) (v:AV) (u:Value),cap[j]?=some v->us[j]?=some u->AVR g w v u)->AVR g w (.fn f cap) (.func (.func (fid f)) #[] us)
 |bsl (id:Id) (agg:Bool) (i sz n b:Nat):g.bx i=some b->AVR g w (.bsl id agg i sz n) (.slice (some ⟨b,0,none⟩) n n)
 |tsl (agg:Bool) (i sz n c b:Nat):g.bx i=some b->n<=c->c<=maxLen->AVR g w (.tsl agg i sz n) (.slice (some ⟨b,0,none⟩) n c)
 |ag (cs:aA) (us:cA):us.size=cs.length->(∀(j:Nat) (v:AV) (u:Value),cs[j]?=some v->us[j]?=some u->AVR g w v u)->AVR g w (.ag false cs) (.agg us)
 |tp (cs:aA) (us:cA):us.size=cs.length->(∀(j:Nat) (v:AV) (u:Value),cs[j]?=some v->us[j]?=some u->AVR g w v u)->AVR g w (.ag true cs) (.tuple us)
 |und:AVR g w .und undef
structure Ext(g:Gh)(w:World)(g':Gh)(w':World):Prop where
 toExtV:ExtV g w g' w'
 bx:∀i b,g.bx i=some b->g'.bx i=some b
theorem Ext.refl(g:Gh)(w:World):Ext g w g w:=⟨ExtV.refl g w,fun _ _ h=>h⟩
theorem Ext.trans{g g' c:Gh}(h:Ext g w g' w')(h':Ext g' w' c w''):Ext g w c w'':=⟨ExtV.trans h.toExtV h'.toExtV,fun i b d=>h'.bx i b (h.bx i b d)⟩
theorem AVR.mono{g g':Gh}(e:Ext g w g' w'){v:AV}(h:AVR fid g w v u):AVR fid g' w' v u:=by
 induction h with
 |d v u h=>exact .d v u (h.mono e.toExtV)
 |ptr i off b h=>exact .ptr i off b (e.bx _ _ h)
 |ep cs ad U l D h=>
  exact .ep cs ad U l (cT D (e.toExtV.K _)) fun j v t=>by obtain⟨s,q,z⟩:=h j v t;have C:j<cs.length:=(aU.1 t).1;exact⟨by rw[e.toExtV.cell _ (by rw[add_block,nL];omega)];exact s,q,z.mono e.toExtV⟩
 |nilp=>exact .nilp
 |fn f cap us l _ p=>exact .fn f cap us l p
 |bsl id agg i sz n b h=>exact .bsl id agg i sz n b (e.bx _ _ h)
 |tsl agg i sz n c b h s q=>exact .tsl agg i sz n c b (e.bx _ _ h) s q
 |ag cs us l _ p=>exact .ag cs us l p
 |tp cs us l _ p=>exact .tp cs us l p
 |und=>exact .und
theorem AVR.data{g g':Gh}(e:ExtV g w g' w'){v:DV}(h:AVR fid g w (.d v) u):AVR fid g' w' (.d v) u:=by
 cases h with
 |d _ _ h=>exact .d _ _ (h.mono e)
structure Core(g:Gh)(w:World)(B:ar)(A:Ids):Prop where
 box:∀i b,g.bx i=some b->∃cs arr e,B[i]?=some (some cs)/\w.heap[b]?=some (.cells arr e (0,0))/\cs.length<=arr.size/\
  (∀(j:Nat) (v:AV) (u:Value),cs[j]?=some v->arr[j]?=some u->AVR fid g w v u)/\(∀v,v∈cs->v.isCell=true/\v.safe i=true)/\g.K b=0
 inj:∀i j b,g.bx i=some b->g.bx j=some b->i=j
 opn:∀a,A a=true->∃b n c sz arr e,g.row a=some (b,n,c,sz)/\w.heap[b]?=some (.cells arr e (0,0))/\c*sz<=arr.size/\g.K b=n*sz/\n<=c/\(∀i,g.bx i≠some b)
 apart:∀a a' b x x',A a=true->A a'=true->g.row a=some (b,x)->g.row a'=some (b,x')->a=a'
 K0:∀b,w.heap.size<=b->g.K b=0
def Gh.blk(g:Gh)(a:Id):a_:=(g.row a).map (·.1)
structure Step(N:Id->Prop)(g:Gh)(w:World)(A:Ids)(g':Gh)(w':World)(A':Ids):Prop where
 os:w'.os=w.os
 tape:w'.tape=w.tape
 output:w'.output=w.output
 size:w.heap.size<=w'.heap.size
 ext:ExtV g w g' w'
 keep:∀b,b<w.heap.size->(∀i,g.bx i≠some b)->(∀a,A a=true->g.blk a≠some b)->w'.heap[b]?=w.heap[b]?/\g'.K b=g.K b
 new:∀a,g'.row a≠g.row a->N a
 org:∀a b,A' a=true->g'.blk a=some b->w.heap.size<=b\/∃a0,A a0=true/\g.blk a0=some b
 arr:∀(b:Nat) (c:cA) (e:TypeId) (z:Nat×Nat),w.heap[b]?=some (Obj.cells c e z)->∃c':cA,w'.heap[b]?=some (Obj.cells c' e z)/\c'.size=c.size
structure Boxes(g:Gh)(w:World)(g':Gh):Prop where
 old:∀i b,g.bx i=some b->g'.bx i=some b
 new:∀i b,g'.bx i=some b->g.bx i=some b\/w.heap.size<=b
theorem Boxes.refl(g:Gh)(w:World):Boxes g w g:=⟨fun _ _ h=>h,fun _ _ h=> .inl h⟩
theorem Boxes.trans{g g' c:Gh}(h:Boxes g w g')(l:w.heap.size<=w'.heap.size)(h':Boxes g' w' c):Boxes g w c:=
 ⟨fun i b j=>h'.old i b (h.old i b j),fun i b j=>by
  rcases h'.new i b j with d|d
  ·exact h.new i b d
  ·exact .inr (cT l d)⟩
theorem Step.refl(N:Id->Prop)(g:Gh)(w:World)(A:Ids):Step N g w A g w A:=⟨rfl,rfl,rfl,bf _,.refl g w,fun _ _ _ _=>⟨rfl,rfl⟩,fun a h=>absurd rfl h,fun a b j d=> .inr ⟨a,j,d⟩,fun b c e z h=>⟨c,h,rfl⟩⟩
theorem Step.trans{g g' t:Gh}{A q:Ids}(h:Step N g w A g' w' A')(J:Boxes g w g')(h':Step N g' w' A' t w'' q):Step N g w A t w'' q:=by
 refine⟨h'.os.trans h.os,h'.tape.trans h.tape,h'.output.trans h.output,cT h.size h'.size,h.ext.trans h'.ext,fun b D j F=> ?_,fun a M=> ?_,fun a b F G=> ?_,fun b c e z J=> ?_⟩
 ·obtain⟨d,l⟩:=h.keep b D j F
  have C:b<w'.heap.size:=nt D h.size;obtain⟨I,H⟩:=h'.keep b C (fun i hi=>by
   rcases J.new i b hi with p|p
   ·exact j i p
   ·omega) (fun a K s=>by
    rcases h.org a b K s with p|⟨a0,p,O⟩
    ·omega
    ·exact F a0 p O)
  exact⟨I.trans d,H.trans l⟩
 ·by_cases d:g'.row a=g.row a
  ·exact h'.new a (by rw[d];exact M)
  ·exact h.new a d
 ·rcases h'.org a b F G with d|⟨a0,d,l⟩
  ·exact .inl (cT h.size d)
  ·exact h.org a0 b d l
 ·obtain⟨c1,d,l⟩:=h.arr b c e z J
  obtain⟨Q,I,H⟩:=h'.arr b c1 e z d;exact⟨Q,I,H.trans l⟩
theorem Step.weaken{N':Id->Prop}{g g':Gh}{A:Ids}(h:Step N g w A g' w' A')(c:∀a,N a->N' a):Step N' g w A g' w' A':={h with new:=fun a d=>c a (h.new a d)}
def qdc(g:Gh)(w:World)(r:aE)(c:cA):Prop:=∀t v,lk r t=some v->AVR fid g w v (c.getD t undef)
theorem qdc.mono{g g':Gh}(e:Ext g w g' w'){r:aE}{c:cA}(h:qdc fid g w r c):qdc fid g' w' r c:=fun t v d=>(h t v d).mono fid e
end
section
def uG:Value->DV->Bool
 | .int k n,.int k' c=>decide (k=k')&&decide (n=c)
 | .bool b,.bool d=>b==d
 | .string s,.str s'=>decide (s=s')
 | .slice none 0 0,.sl .nil []=>true
 |_,_=>false
def io:bW->al->Bool
 | [],[]=>true
 |u::us,v::vs=>uG u v&&io us vs
 |_,_=>false
def yE:Value->DV->Bool
 | .agg us,.agg vs=>io us.toList vs
 |u,v=>uG u v
variable (P:Program) (fid:Nat->FuncId)
def bM:Operand->VX->Bool
 | .tmp t,.t h=>t==h
 | .const (.pointer none),.c .nilp=>true
 | .const u,.c (.d v)=>yE u v
 | .func f,.c (.fn j [])=>f==fid j
 |_,_=>false
def l8:List Operand->cm->Bool
 | [],[]=>true
 |o::os,x::xs=>bM fid o x&&l8 os xs
 |_,_=>false
def iY:MJ->iq->Bool
 |none,none=>true
 |some o,some x=>bM fid o x
 |_,_=>false
def pw(t:TypeId):mx:=(P.underlying t).map fun d=>match d with| .struct _| .array _ _=>true|_=>false
def eT(t:TypeId):a_:=(P.info? t).map (·.size)
def AM(t:TypeId):a_:=(P.info? t).map (·.bytes)
def wc(t:TypeId)(vs:al):Bool:=
 match (P.info? t).bind (·.zero)with
 |some z=>io z.cells.toList vs
 |none=>false
def zeroV(t:TypeId)(v:DV):Bool:=
 match (P.info? t).bind (·.zero)with
 |some z=>yE z v
 |none=>false
def kb(t:TypeId):Option TypeId:=
 match P.underlying t with
 |some (.slice e)=>some e
 |_=>none
def Lj:Operand->Bool
 | .const (.slice none 0 0)=>true
 |_=>false
def lT(place:Nat->Option (Nat×Nat)):xO->iX->Bool
 | [],[]=>true
 |(i,o)::r,(off,size,x)::c=>place i==some (off,size)&&bM fid o x&&lT place r c
 |_,_=>false
def oR:xO->i9->Bool
 | [],[]=>true
 |(i,o)::r,(d,x)::c=>i==d&&bM fid o x&&oR r c
 |_,_=>false
def fieldsOf(t:TypeId):Option (Array Field):=
 match P.underlying t with
 |some (.struct fs)=>some fs
 |_=>none
def arrayOf(t:TypeId):Option (Nat×TypeId):=
 match P.underlying t with
 |some (.array n e)=>some (n,e)
 |_=>none
def pX(t:TypeId):Bool:=match P.underlying t with|some .string=>true|_=>false
def vw(t:TypeId):Option IntKind:=match P.underlying t with|some (.int k)=>some k|_=>none
def isInt(t:TypeId):Bool:=match P.underlying t with|some (.int _)=>true|_=>false
def oL:Nat->List Field->ae->Bool
 |_,[],[]=>true
 |i,f::r,k::ks=>decide (f.offset=i)&&f.name != "_"&&
  (match P.underlying f.type with|some .bool=>decide (k=1)|some (.int _)=>decide (k=0)|some .string=>decide (k=2)|_=>false)&&oL (i+1) r ks
 |_,_,_=>false
def HE(t:TypeId):Option (Nat->Option (Nat×Nat)):=
 match P.underlying t with
 |some (.array _ e)=>(P.info? e).map fun c=>fun i=>some (i*c.size,c.size)
 |some (.struct fs)=>(fs.toList.mapM fun f=>(P.info? f.type).map fun i=>(f.offset,i.size)).map fun pl=>(pl.toArray[·]?)
 |_=>none
def aM:Op->VOp->Bool
 | .move x,.move y| .assign x,.move y=>bM fid x y
 | .pick c a b,.pick c' a' K=>bM fid c c'&&bM fid a a'&&bM fid b K
 | .alloc t,.alloc _ z=>wc P t z
 | .box _ x,.box _ y=>bM fid x y
 | .build t ps,.build z q=>wc P t z&&(match HE P t with|some pl=>lT fid pl ps.toList q|none=>false)
 | .buildSlice t n ps,.buildSlice sz z J q=>decide (n=J)&&
  (match kb P t with
   |some e=>decide (eT P e=some sz)&&zeroV P e z&&oR fid ps.toList q
   |none=>false)
 | .load t a,.load agg sz x=>decide (pw P t=some agg)&&decide (eT P t=some sz)&&bM fid a x
 | .store t a v,.storeN sz x y _=>decide (eT P t=some sz)&&bM fid a x&&bM fid v y
 | .store t a v,.store _ sz x y=>decide (eT P t=some sz)&&bM fid a x&&bM fid v y
 | .nilCheck x,.nilCheck y=>bM fid x y
 | .binOp op t x y _,.bin H x' D=>decide (op=H)&&bM fid x x'&&bM fid y D&&
  (match P.underlying t with|some (.int _)|some .string=>true|_=>false)
 | .binOp op t x y _,.eqB neg x' D=>decide (op=if neg then .neq else .eql)&&bM fid x x'&&bM fid y D&&(match P.underlying t with|some .bool=>true|_=>false)
 | .binOp op t x y _,.eqNil neg x'=>decide (op=if neg then .neq else .eql)&&bM fid x x'&&Lj y&&(kb P t).isSome
 | .binOp op t x y _,.eqAgg neg ks x' D=>decide (op=if neg then .neq else .eql)&&bM fid x x'&&bM fid y D&&
  (match P.underlying t with
   |some (.struct fs)=>oL P 0 fs.toList ks&& !P.stoodInHeld t&& !P.eqGuardType P.depth t
   |_=>false)
 | .unOp .not _ x,.not y=>bM fid x y
 | .unOp .neg _ x,.bin op (.c (.d (.int _ n))) y=>decide (op= .sub)&&decide (n=0)&&bM fid x y
 | .convert src dst x,.conv (.kind k) y=>bM fid x y&&isInt P src&&decide (vw P dst=some k)
 | .convert src dst x,.conv .rune y=>bM fid x y&&isInt P src&&pX P dst
 | .convert src dst x,.conv .bytes y=>bM fid x y&&pX P dst&&(match kb P src with|some e=>decide (vw P e=some .u8)|none=>false)
 | .index t x i,.index x' p=>pX P t&&bM fid x x'&&bM fid i p
 | .indexAddr t x i,.indexAddr sz none x' p=>bM fid x x'&&bM fid i p&&(match kb P t with|some e=>decide (eT P e=some sz)|none=>false)
 | .indexAddr t x i,.indexAddr sz (some m) x' p=>bM fid x x'&&bM fid i p&&(match arrayOf P t with|some (n,e)=>decide (n=m)&&decide (eT P e=some sz)|none=>false)
 | .fieldAddr t x f,.fieldAddr off x'=>bM fid x x'&&
  (match fieldsOf P t with
   |some fs=>(match fs[f]? with|some f=>decide (f.offset=off)&&(match eT P f.type with|some s=>decide (s≠0)|none=>false)|none=>false)
   |none=>false)
 | .slice t x lo hi none,.slice str sz x' G F=>bM fid x x'&&iY fid lo G&&iY fid hi F&&
  (match P.underlying t with
   |some .string=>str
   |some (.slice e)=> !str&&decide (eT P e=some sz)
   |_=>false)
 | .makeFunc (.func f) first caps,.makeFunc C j=>decide (first= #[])&&f==fid C&&l8 fid caps.toList j
 | .makeSlice t l c,.makeSlice _ sz bytes z x=>bM fid l x&&bM fid c x&&
  (match kb P t with
   |some e=>decide (eT P e=some sz)&&decide (AM P e=some bytes)&&zeroV P e z
   |none=>false)
 | .extract x i,.extract x' p=>bM fid x x'&&decide (i=p)
 | .call {callee:= .value f,args,..},.call _ C h=>bM fid f C&&l8 fid args.toList h
 | .call {callee:= .value f,args,..},.callS _ C h=>bM fid f C&&l8 fid args.toList h
 | .load t a,.loadS agg sz x _=>decide (pw P t=some agg)&&decide (eT P t=some sz)&&bM fid a x
 | .call {callee:= .builtin .append,args,argTypes},.append sz bytes x y=>
  (match args.toList,argTypes.toList with
   | [a,b],[t,I]=>bM fid a x&&bM fid b y&&decide (t=I)&&(match kb P t with|some e=>decide (eT P e=some sz)&&decide (AM P e=some bytes)&&decide (0<sz)&&decide (0<bytes)&&((P.info? e).bind (·.zero)).any (fun z=>z.cells.size==sz)|none=>false)
   |_,_=>false)
 | .call {callee:= .builtin .len,args,argTypes},.len str x=>
  (match args.toList,argTypes.toList with
   | [a],[t]=>bM fid a x&&(match P.underlying t with|some .string=>str|some (.slice _)=> !str|_=>false)
   |_,_=>false)
 |_,.fail=>true
 |_,_=>false
def yG(ops:qG):mg->mg->Bool
 |none,none=>true
 |some (j,w),some (t,w')=>w==w'&&((ops[j]?).bind (·.dst))==some t
 |_,_=>false
def il(N:Nat)(ops:qG)(o:Oper)(c:VOper):Bool:=o.dst==c.dst&&(match o.dst with|some d=>decide (d<N)|none=>true)&&aM P fid o.op c.op&&yG ops o.guard c.guard
def iN(o:Oper):ae:=(o.after.toList.filter (Region.binds .any)).map (·.on)
def ee(N:Nat)(ops:qG)(draw:Bool):List Oper->aC->Bool
 | [],[]=>true
 |o::os,v::vs=>il P fid N ops o v&&(!draw||(iN o).all fun j=>v.after.contains j)&&(!draw||v.after.all fun j=>(iN o).contains j)&&ee N ops draw os vs
 |_,_=>false
def CF(N:Nat)(j h c:Oper)(p:VOper):Bool:=
 match p with
 |⟨some d,.append1 sz bytes x y l v t9,none,_⟩=>
  j.dst==some d&&h.dst==some t9&&c.dst==none&&decide (d<N)&&decide (t9<N)&&j.guard.isNone&&h.guard.isNone&&c.guard.isNone&&
   aM P fid j.op (.append sz bytes x y)&&aM P fid h.op (.indexAddr sz none (.t d) l)&&aM P fid c.op (.store false sz (.t t9) v)&&
   !(l.tmps.contains d)&& !(v.tmps.contains d)&& !(v.tmps.contains t9)&&decide (d≠t9)
 |_=>false
def gA(n K:Nat):m8:=((List.range n).map fun i=>decide (i<K)).toArray
def qZ(ops:qG)(K:Nat):Bool:=
 decide (ops.size=K+6)&&Region.noSelect ops&&
 ((List.range 6).all fun m=>match ops[K+m]? with|some o=>o.guard.isNone&&(List.range K).all fun j=>(iN o).contains j|none=>false)&&
 decide (Region.ready .any ops (gA ops.size K)=[K])&&
 Region.free .any ops ((gA ops.size K).setIfInBounds K true) (K+1)&&(Region.ready .any ops ((gA ops.size K).setIfInBounds K true)).contains (K+1)&&
 Region.free .any ops (((gA ops.size K).setIfInBounds K true).setIfInBounds (K+1) true) (K+3)&&(Region.ready .any ops (((gA ops.size K).setIfInBounds K true).setIfInBounds (K+1) true)).contains (K+3)&&
 Region.free .any ops ((((gA ops.size K).setIfInBounds K true).setIfInBounds (K+1) true).setIfInBounds (K+3) true) (K+4)&&(Region.ready .any ops ((((gA ops.size K).setIfInBounds K true).setIfInBounds (K+1) true).setIfInBounds (K+3) true)).contains (K+4)&&
 decide (Region.ready .any ops (((((gA ops.size K).setIfInBounds K true).setIfInBounds (K+1) true).setIfInBounds (K+3) true).setIfInBounds (K+4) true)=[K+2,K+5])&&
 decide (Region.ready .any ops ((((((gA ops.size K).setIfInBounds K true).setIfInBounds (K+1) true).setIfInBounds (K+3) true).setIfInBounds (K+4) true).setIfInBounds (K+2) true)=[K+5])&&
 decide (Region.ready .any ops ((((((gA ops.size K).setIfInBounds K true).setIfInBounds (K+1) true).setIfInBounds (K+3) true).setIfInBounds (K+4) true).setIfInBounds (K+5) true)=[K+2])&&
 decide (Region.ready .any ops (((((((gA ops.size K).setIfInBounds K true).setIfInBounds (K+1) true).setIfInBounds (K+3) true).setIfInBounds (K+4) true).setIfInBounds (K+2) true).setIfInBounds (K+5) true)=[])&&
 decide (Region.ready .any ops (((((((gA ops.size K).setIfInBounds K true).setIfInBounds (K+1) true).setIfInBounds (K+3) true).setIfInBounds (K+4) true).setIfInBounds (K+5) true).setIfInBounds (K+2) true)=[])&&
 (match ops[K+2]?,ops[K+3]?,ops[K+4]? with|some c,some d,some h=>d.apart ops c&&h.apart ops c|_,_,_=>false)
def Mi:aC->Bool
 | [⟨some d,.nilCheck (.t _),none,_⟩,⟨some c,.fieldAddr _ (.t y),none,_⟩,⟨none,.store false _ (.t z) _,none,_⟩]=>y==d&&z==c
 |_=>false
def b9(N:Nat):Code->VCode->Bool
 |c,.ghost _ c'=>b9 N c c'
 | .skip,.skip=>true
 | .ret,.ret=>true
 | .exit i,.exit j=>i==j
 | .seq a b,.seq a' h=>b9 N a a'&&b9 N b h
 | .region _ ops draw,.region d _ _ vs=>draw==d&&ee P fid N ops draw ops.toList vs
 | .region _ ops draw,.regionF d _ _ fs=>draw==d&&ee P fid N ops draw ops.toList (gQ fs)
 | .region _ ops true,.regionT _ _ pre (t::tl)=>
  ee P fid N ops true (ops.toList.take pre.length) pre&&ee P fid N ops false (ops.toList.drop (pre.length+3)) tl&&qZ ops pre.length&&Mi tl&&
   (match ops[pre.length]?,ops[pre.length+1]?,ops[pre.length+2]? with
    |some a,some b,some c=>CF P fid N a b c t
    |_,_,_=>false)
 | .cond x a b,.cond x' a' h=>bM fid x x'&&b9 N a a'&&b9 N b h
 | .block i c,.block j c'=>i==j&&b9 N c c'
 | .loop c,.loop _ c'=>b9 N c c'
 |_,_=>false
def iB:List ResultVar->fK->Bool
 | [],[]=>true
 | .tmp t::r,.tmp c::d=>t==c&&iB r d
 | .cell t ty::r,.cell c agg sz::d=>t==c&&decide (pw P ty=some agg)&&decide (eT P ty=some sz)&&iB r d
 |_,_=>false
def qu(fn:Func)(vf:VFn):Bool:=(match fn.body with|some c=>b9 P fid fn.ntmps c vf.code|none=>false)&&iB P fn.results.toList vf.results&&decide (vf.np<=fn.ntmps)&& !(fn.name== "runtime.NumGoroutine")
end
variable{vs cs:al}{x:VX}{a:Act}{off sz:Nat}{k:IntKind}{b:Bool}
section
variable {P:Program} {fid:Nat->FuncId} {g:Gh} {w:World}
theorem B5{v:DV}(h:uG u v=true):VR g w v u/\v.isCell=true:=by
 unfold uG at h;split at h
 ·simp at h;obtain⟨rfl,rfl⟩:=h;exact⟨.int _ _,rfl⟩
 ·simp at h;subst h;exact⟨.bool _,rfl⟩
 ·simp at h;subst h;exact⟨.str _,rfl⟩
 ·exact⟨.nil,rfl⟩
 ·simp at h
theorem wT:∀{us:bW} {vs:al},io us vs=true->us.length=vs.length
 | [],[],_=>rfl
 |u::us,v::vs,h=>by simp[io]at h;simp[wT h.2]
 | [],_::_,h=>by simp[io]at h
 |_::_,[],h=>by simp[io]at h
theorem v9:∀{us:bW} {vs:al},io us vs=true->∀(j:Nat) (v:DV) (u:Value),vs[j]?=some v->us[j]?=some u->uG u v=true
 | [],[],_,j,v,u,c,_=>by simp at c
 |u::us,v::vs,h,j,v',l,c,d=>by
  simp[io]at h;cases j with
  |zero=>simp at c d;subst c;subst d;exact h.1
  |succ j=>simp at c d;exact v9 h.2 j v' l c d
 | [],_::_,h,_,_,_,_,_=>by simp[io]at h
 |_::_,[],h,_,_,_,_,_=>by simp[io]at h
theorem Lm{us:bW}(h:io us vs=true)(v:DV)(d:v∈vs):v.isCell=true:=by obtain⟨j,c⟩:=dH.1 d;have p:=wT h;have l:j<vs.length:=(aU.1 c).1;exact(B5 (g:=⟨fun _=>0,fun _=>none,fun _=>none⟩) (w:=default) (v9 h j v (us[j]'(by omega)) c (by simp))).2
theorem I0{v:DV}(h:yE u v=true):VR g w v u:=by
 unfold yE at h;split at h
 ·rename_i us vs
  refine .agg _ _ (by simpa using wT h) (fun v l=>Lm h v l) fun j v u d c=>(B5 (v9 h j v u d (by simpa using c))).1
 ·exact(B5 h).1
theorem bG{r:aE}(hr:qdc fid g w r a.tmps){o:Operand}{v:AV}(h:bM fid o x=true)(c:x.get r=some v):AVR fid g w v (a.eval o):=by
 unfold bM at h;split at h
 ·simp at h;subst h;exact hr _ _ c
 ·simp[VX.get]at c;subst c;exact .nilp
 ·simp[VX.get]at c;subst c;exact .d _ _ (I0 h)
 ·simp at h
  simp[VX.get]at c;subst c;subst h
  exact .fn _ _ _ rfl (by simp)
 ·simp at h
theorem ug{r:aE}(hr:qdc fid g w r a.tmps):∀{os:List Operand} {xs:cm} {vs:aA},l8 fid os xs=true->di r xs=some vs->
 vs.length=os.length/\∀(j:Nat) (v:AV) (o:Operand),vs[j]?=some v->os[j]?=some o->AVR fid g w v (a.eval o)
 | [],[],vs,_,h=>by simp[di]at h;subst h;simp
 |o::os,x::xs,vs,h,l=>by
  simp[l8]at h;simp only[di]at l;obtain⟨v,t,p⟩:=az.1 l;obtain⟨s,q,rfl⟩:=ay.1 p;obtain⟨z,C⟩:=ug hr h.2 q;refine⟨by simp[z],fun j v' D d c=> ?_⟩;cases j with
  |zero=>simp at d c;subst d;subst c;exact bG hr h.1 t
  |succ j=>simp at d c;exact C j v' D d c
 | [],_::_,_,h,_=>by simp[l8]at h
 |_::_,[],_,h,_=>by simp[l8]at h
theorem dr{v:DV}(h:AVR fid g w (.d v) u):VR g w v u:=by cases h with|d _ _ h=>exact h
theorem fM(h:AVR fid g w (.ptr i off) u):∃b,g.bx i=some b/\u= .pointer (some ⟨b,off,none⟩):=by cases h with|ptr _ _ b h=>exact⟨b,h,rfl⟩
theorem eO{n:Int}(h:AVR fid g w (.d (.int k n)) u):u= .int k n:=by cases dr h;rfl
theorem jq(h:AVR fid g w (ax b) u):u= .bool b:=by cases dr h;rfl
theorem tu{s:ByteArray}(h:AVR fid g w (.d (.str s)) u):u= .string s:=by cases dr h;rfl
theorem lD{v:DV}(h:VR g w v u)(hc:v.isCell=true):u.oneCell'=true/\u.cells= #[u]/\v.cells=[v]:=by cases h<;>simp_all[DV.isCell,Value.oneCell',Value.cells,DV.cells]
theorem Fq{v:DV}(h:VR g w v u)(hc:∀c,c∈v.cells->c.isCell=true):
 u.cells.size=v.cells.length/\(∀(j:Nat) (c:DV) (x:Value),v.cells[j]?=some c->u.cells[j]?=some x->VR g w c x)/\(∀x,x∈u.cells.toList->x.oneCell'=true):=by
 cases h with
 |agg cs us G d q=>
  refine⟨G,q,fun x I=> ?_⟩;obtain⟨j,C⟩:=dH.1 I;simp[Value.cells]at C;have J:j<us.size:=(d9.1 C).1;have F:j<cs.length:=by omega
  exact(lD (q j cs[j] x (by simp) C) (d _ (by simp))).1
 |tup cs us G q=>exact absurd (hc (.tup cs) (by simp[DV.cells])) (by simp[DV.isCell])
 |int k n=>exact⟨rfl,fun j c x p l=>by cases j<;>simp[DV.cells,Value.cells]at p l;subst p;subst l;exact .int _ _,by simp[Value.cells,Value.oneCell']⟩
 |bool b=>exact⟨rfl,fun j c x p l=>by cases j<;>simp[DV.cells,Value.cells]at p l;subst p;subst l;exact .bool _,by simp[Value.cells,Value.oneCell']⟩
 |str s=>exact⟨rfl,fun j c x p l=>by cases j<;>simp[DV.cells,Value.cells]at p l;subst p;subst l;exact .str _,by simp[Value.cells,Value.oneCell']⟩
 |nil=>exact⟨rfl,fun j c x p l=>by cases j<;>simp[DV.cells,Value.cells]at p l;subst p;subst l;exact .nil,by simp[Value.cells,Value.oneCell']⟩
 |row t xs ad c s U H F M d K D q z=>exact⟨rfl,fun j c x p l=>by cases j<;>simp[DV.cells,Value.cells]at p l;subst p;subst l;exact .row t xs ad _ s U H F M d K D q z,by simp[Value.cells,Value.oneCell']⟩
theorem TC{agg:Bool}{v:DV}(hc:cut agg sz cs=some v)(ad:Addr)(U:Nat->Value)
 (h:∀(j:Nat) (c:DV),cs[j]?=some c->w.cell? (ad.add j)=some (U j)/\c.isCell=true/\VR g w c (U j)):
 ∃u,VR g w v u/\(agg=true->u= .agg ((List.range sz).map U).toArray/\∀j,j<sz->w.cell? (ad.add j)=some (U j))/\(agg=false->u=U 0/\w.cell? (ad.add 0)=some (U 0)):=by
 unfold cut at hc;cases agg with
 |true=>
  simp at hc;obtain⟨t,rfl⟩:=hc;refine⟨.agg ((List.range sz).map U).toArray,?_,fun _=>⟨rfl,fun j d=>(h j cs[j] (by simp)).1⟩,by simp⟩;refine .agg _ _ (by simp;omega) (fun v s=> ?_) (fun j v u l q=> ?_)
  ·obtain⟨j,d⟩:=dH.1 s
   rw[eY]at d;split at d
   ·exact(h j v d).2.1
   ·simp at d
  ·rw[eY]at l
   split at l
   ·rename_i p
    have:=(h j v l).2.2;simp[p]at q;rw[<-q];exact this
   ·simp at l
 |false=>simp at hc;have:=h 0 v hc;exact⟨U 0,this.2.2,by simp,fun _=>⟨rfl,this.1⟩⟩
end
variable{o:Oper}{y:VX}
section
variable {P:Program} {fid:Nat->FuncId} {g:Gh} {w:World}
def Yields(P:Program)(fid:Nat->FuncId)(g:Gh)(w:World)(a:Act)(o:Oper)(v:AV):Prop:=∃u,(execOp a.eval o).run P w= .ok (.value u) w/\AVR fid g w v u
section
variable {a:Act} {r:aE} (hr:qdc fid g w r a.tmps)
include hr
theorem qSC{v:AV}(h:aM P fid o.op (.move x)=true)(c:x.get r=some v):Yields P fid g w a o v:=by
 obtain⟨dst,op,ty,pos,after,guard⟩:=o;cases op with
 |move y=>exact⟨_,rfl,bG hr (by simpa[aM]using h) c⟩
 |assign y=>exact⟨_,rfl,bG hr (by simpa[aM]using h) c⟩
 |_=>simp[aM]at h
theorem TO{c:VX}{v:AV}(h:aM P fid o.op (.pick c x y)=true)(d:aK r (.pick c x y)=some v):Yields P fid g w a o v:=by
 obtain⟨dst,op,ty,pos,after,guard⟩:=o;cases op with
 |pick c' x' j=>
  simp[aM]at h;simp only[aK]at d;split at d
  ·rename_i hc
   have:=jq (bG hr h.1.1 hc);refine⟨_,?_,bG hr h.1.2 d⟩;simp[execOp,this,asBool]
  ·rename_i hc
   have:=jq (bG hr h.1.1 hc);refine⟨_,?_,bG hr h.2 d⟩;simp[execOp,this,asBool]
  ·simp at d
 |_=>simp[aM]at h
theorem Nu{v:AV}(h:aM P fid o.op (.nilCheck x)=true)(c:aK r (.nilCheck x)=some v):Yields P fid g w a o v:=by
 obtain⟨dst,op,ty,pos,after,guard⟩:=o;cases op with
 |nilCheck y=>
  simp[aM]at h;simp only[aK]at c;split at c
  all_goals (try (simp at c;done))
  all_goals
   rename_i j;simp at c;subst c;have d:=bG hr h j;refine⟨_,?_,d⟩;generalize l:a.eval y=q at d;cases d<;>simp_all[execOp]
 |_=>simp[aM]at h
theorem qYv{v:AV}(h:aM P fid o.op (.not x)=true)(c:aK r (.not x)=some v):Yields P fid g w a o v:=by
 obtain⟨dst,op,ty,pos,after,guard⟩:=o;cases op with
 |unOp u t y=>
  cases u with
  |not=>
   simp[aM]at h;simp only[aK]at c;split at c
   ·rename_i b j
    simp at c;subst c
    have:=jq (bG hr h j);exact⟨.bool !b,by simp[execOp,this,Op.unary],.d _ _ (.bool _)⟩
   ·simp at c
  |_=>simp[aM]at h
 |_=>simp[aM]at h
theorem SX{cs:cm}{v:AV}(h:aM P fid o.op (.makeFunc f cs)=true)(c:aK r (.makeFunc f cs)=some v):Yields P fid g w a o v:=by
 obtain⟨dst,op,ty,pos,after,guard⟩:=o;cases op with
 |makeFunc fn first caps=>
  cases fn with
  |func D=>simp[aM]at h;obtain⟨⟨rfl,rfl⟩,l⟩:=h;simp only[aK]at c;obtain⟨vs,t,rfl⟩:=ay.1 c;obtain⟨s,z⟩:=ug hr l t;refine⟨.func (.func (fid f)) #[] (caps.map a.eval),by simp[execOp,Instr.makeFunc],.fn _ _ _ (by simpa using s.symm) fun j v u q d=> ?_⟩;simp at d;obtain⟨C,p,rfl⟩:=d;exact z j v C q (by simpa using p)
  |_=>simp[aM]at h
 |_=>simp[aM]at h
theorem UF{v:AV}(h:aM P fid o.op (.extract x i)=true)(p:aK r (.extract x i)=some v):Yields P fid g w a o v:=by
 obtain⟨dst,op,ty,pos,after,guard⟩:=o;cases op with
 |extract y l=>
  simp[aM]at h;obtain⟨D,rfl⟩:=h;simp only[aK]at p;split at p
  ·rename_i vs t
   obtain⟨d,C,rfl⟩:=ay.1 p;have s:=dr (bG hr D t);generalize z:a.eval y=q at s;cases s with
   |tup _ us F c=>
    have j:l<us.size:=by have:=(aU.1 C).1;omega
    exact⟨us[l],by simp[execOp,z,Instr.extract,j],.d _ _ (c l d _ C (by simp[j]))⟩
  ·rename_i vs t
   have s:=bG (w:=w) hr D t;generalize z:a.eval y=q at s;cases s with
   |tp _ us F c=>
    have j:l<us.size:=by have:=(aU.1 p).1;omega
    exact⟨us[l],by simp[execOp,z,Instr.extract,j],c l v _ p (by simp[j])⟩
  ·simp at p
 |_=>simp[aM]at h
theorem Hi{v:AV}(h:aM P fid o.op (.fieldAddr off x)=true)(l:aK r (.fieldAddr off x)=some v):Yields P fid g w a o v:=by
 obtain⟨dst,op,ty,pos,after,guard⟩:=o;cases op with
 |fieldAddr t y f=>
  simp only[aM,aQ]at h;obtain⟨M,p⟩:=h;split at p
  ·rename_i fs c
   split at p
   ·rename_i fd S
    simp only[aQ,bu]at p;obtain⟨rfl,F⟩:=p;split at F
    ·rename_i sz z
     simp at F;have V:P.underlying t=some (.struct fs):=by
      unfold fieldsOf at c;split at c
      ·rename_i J;simp at c;subst c;exact J
      ·simp at c
     obtain⟨D,G,C⟩:∃D,P.info? fd.type=some D/\D.size=sz:=by unfold eT at z;obtain⟨D,X,W⟩:=ay.1 z;exact⟨D,X,W⟩
     have d:∀ad:Addr,a.eval y= .pointer (some ad)->(execOp a.eval ⟨dst,.fieldAddr t y f,ty,pos,after,guard⟩).run P w= .ok (.value (.pointer (some (ad.add fd.offset)))) w:=by intro ad I;simp[execOp,Instr.fieldAt,underlying,V,S,Instr.sureAddr,I,fieldPlace,sizeOf,typeInfo,G,C,F]
     simp only[aK]at l;split at l
     ·rename_i b o H
      simp at l;subst l
      obtain⟨blk,Q,R⟩:=fM (bG hr M H);refine⟨_,d _ R,?_⟩;have:(⟨blk,o,none⟩:Addr).add fd.offset=⟨blk,o+fd.offset,none⟩:=by unfold Addr.add;split<;>simp_all
      rw[this];exact .ptr _ _ _ Q
     ·rename_i cs H
      simp at l;obtain⟨O,rfl⟩:=l;have s:=bG hr M H;generalize J:a.eval y=q at s;cases s with
      |ep _ ad U Z Y hc=>
       ·refine⟨_,d _ J,.ep _ _ (fun j=>U (fd.offset+j)) ?_ ?_ fun j v K=> ?_⟩
        ·unfold Addr.add;split<;>simp_all
        ·rw[nL,add_block];simp;omega
        ·rw[gP]at K
         have:=hc _ _ K;have e:(ad.add fd.offset).add j=ad.add (fd.offset+j):=by unfold Addr.add;split<;>split<;>split<;>simp_all<;>omega
         rw[e];exact this
     ·simp at l
    ·simp at F
   ·simp at p
  ·simp at p
 |_=>simp[aM]at h
omit hr in
theorem add_add(ad:Addr)(i j:Nat)(h:ad.spot=none):(ad.add i).add j=ad.add (i+j):=by unfold Addr.add;split<;>split<;>split<;>simp_all<;>omega
theorem qs4{i:VX}{v:AV}(h:aM P fid o.op (.indexAddr sz none x i)=true)(d:aK r (.indexAddr sz none x i)=some v):Yields P fid g w a o v:=by
 obtain⟨dst,op,ty,pos,after,guard⟩:=o;cases op with
 |indexAddr t y j=>
  simp only[aM,aQ]at h;obtain⟨⟨h1,h2⟩,O⟩:=h;split at O
  ·rename_i e V
   simp at O;have hu:P.underlying t=some (.slice e):=by
    unfold kb at V;split at V
    ·rename_i I;simp at V;subst V;exact I
    ·simp at V
   obtain⟨Q,H,G⟩:∃Q,P.info? e=some Q/\Q.size=sz:=by unfold eT at O;obtain⟨Q,h4,h5⟩:=ay.1 O;exact⟨Q,h4,h5⟩
   simp only[aK]at d;split at d
   ·rename_i tg xs k n S hi
    split at d
    ·rename_i W
     obtain⟨el,D,d⟩:=az.1 d;split at d
     ·rename_i F
      obtain⟨F,hz⟩:=F;simp at d;subst d
      have l:=dr (bG hr h1 S);have z:=eO (bG hr h2 hi);have K:n.toNat<xs.length:=(aU.1 D).1;generalize I:a.eval y=q at l;cases l with
      |nil=>simp at K
      |row _ _ ad c s U ht hl hm C hK M Z x2=>
       have hs:s=sz:=by have:=(M _ _ D).1;omega
       subst hs;have x1:ad.spot=none:=by
        have:=C 0 (Nat.mul_pos (by omega) (by omega));unfold World.cell? Addr.add at this;simp at this;split at this
        ·split at this
         ·simp at this
         ·rename_i X;simpa using X
        ·simp at this
       have x3:n<(xs.length:Int):=by omega
       refine⟨.pointer (some (ad.add (n.toNat*s))),?_,?_⟩
       ·simp[execOp,Instr.indexAt,I,z,asIntOf,underlying,hu,sizeOf,typeInfo,H,G]
        simp[W];intro X;omega
       ·refine .ep _ _ (fun j=>U (n.toNat*s+j)) ?_ ?_ fun j v Y=> ?_
        ·unfold Addr.add;split<;>simp_all
        ·rw[nL,add_block]
         have:n.toNat*s+s<=xs.length*s:=by have:=fP s (show n.toNat+1<=xs.length by omega);rw[dF]at this;omega
         omega
        ·have a1:j<s:=by have:=(aU.1 Y).1;omega
         have R:n.toNat*s+j<xs.length*s:=by have:=fP s (show n.toNat+1<=xs.length by omega);rw[dF]at this;omega
         rw[add_add _ _ _ x1];exact⟨C _ R,(M _ _ D).2 v (cg Y),Z _ _ _ _ D Y⟩
     ·simp at d
    ·simp at d
   ·rename_i id ag b p n kk J S hi
    split at d
    ·rename_i hc
     obtain⟨rfl,W,K⟩:=hc;simp at d;subst d
     have l:=bG hr h1 S;have z:=eO (bG hr h2 hi);generalize I:a.eval y=q at l;cases l with
     |bsl _ _ _ _ _ blk hb=>
      refine⟨.pointer (some ((⟨blk,0,none⟩:Addr).add (J.toNat*p))),?_,?_⟩
      ·simp[execOp,Instr.indexAt,I,z,asIntOf,underlying,hu,sizeOf,typeInfo,H,G]
       simp[W];intro X;omega
      ·have:(⟨blk,0,none⟩:Addr).add (J.toNat*p)=⟨blk,J.toNat*p,none⟩:=by unfold Addr.add;split<;>simp_all
       rw[this];exact .ptr _ _ _ hb
    ·simp at d
   ·rename_i ag b p n kk J S hi
    split at d
    ·rename_i hc
     obtain⟨rfl,W,K⟩:=hc;simp at d;subst d
     have l:=bG (w:=w) hr h1 S;have z:=eO (bG hr h2 hi);generalize I:a.eval y=q at l;cases l with
     |tsl _ _ _ _ cc blk hb hc1 a2=>
      refine⟨.pointer (some ((⟨blk,0,none⟩:Addr).add (J.toNat*p))),?_,?_⟩
      ·simp[execOp,Instr.indexAt,I,z,asIntOf,underlying,hu,sizeOf,typeInfo,H,G]
       simp[W];intro X;omega
      ·have:(⟨blk,0,none⟩:Addr).add (J.toNat*p)=⟨blk,J.toNat*p,none⟩:=by unfold Addr.add;split<;>simp_all
       rw[this];exact .ptr _ _ _ hb
    ·simp at d
   ·simp at d
  ·simp at O
 |_=>simp[aM]at h
theorem qyY{i:VX}{v:AV}(h:aM P fid o.op (.indexAddr sz (some m) x i)=true)(c:aK r (.indexAddr sz (some m) x i)=some v):Yields P fid g w a o v:=by
 obtain⟨dst,op,ty,pos,after,guard⟩:=o;cases op with
 |indexAddr t y j=>
  simp only[aM,aQ]at h;obtain⟨⟨Q,M⟩,l⟩:=h;split at l
  ·rename_i n e s
   simp at l;obtain⟨rfl,l⟩:=l;have S:P.underlying t=some (.array n e):=by
    unfold arrayOf at s;split at s
    ·rename_i K;simp at s;obtain⟨rfl,rfl⟩:=s;exact K
    ·simp at s
   obtain⟨p,D,C⟩:∃p,P.info? e=some p/\p.size=sz:=by unfold eT at l;obtain⟨p,J,I⟩:=ay.1 l;exact⟨p,J,I⟩
   have d:∀(ad:Addr) (k:IntKind) (q:Int),a.eval y= .pointer (some ad)->a.eval j= .int k q->0<=q->q<(n:Int)->
    (execOp a.eval ⟨dst,.indexAddr t y j,ty,pos,after,guard⟩).run P w= .ok (.value (.pointer (some (ad.add (q.toNat*sz))))) w:=by
    intro ad k q J I W Z;simp[execOp,Instr.indexAt,J,I,asIntOf,underlying,S,sizeOf,typeInfo,D,C,Instr.sureAddr];simp[W];intro X;omega
   simp only[aK]at c;split at c
   ·rename_i b off k q F hi
    split at c
    ·rename_i hc
     simp at c;subst c
     obtain⟨blk,R,G⟩:=fM (bG hr Q F);refine⟨_,d _ _ _ G (eO (bG hr M hi)) hc.1 hc.2,?_⟩;have:(⟨blk,off,none⟩:Addr).add (q.toNat*sz)=⟨blk,off+q.toNat*sz,none⟩:=by unfold Addr.add;split<;>simp_all
     rw[this];exact .ptr _ _ _ R
    ·simp at c
   ·rename_i cs k q F hi
    split at c
    ·rename_i hc
     simp at c;subst c
     have z:=bG hr Q F;generalize K:a.eval y=qq at z;cases z with
     |ep _ ad U V Y H=>
      refine⟨_,d _ _ _ K (eO (bG hr M hi)) hc.1 hc.2.1,.ep _ _ (fun j=>U (q.toNat*sz+j)) ?_ ?_ fun j v O=> ?_⟩
      ·unfold Addr.add;split<;>simp_all
      ·rw[nL,add_block];simp;omega
      ·rw[gP]at O
       rw[add_add _ _ _ V];exact H _ _ O
    ·simp at c
   ·simp at c
  ·simp at l
 |_=>simp[aM]at h
theorem VW{str:Bool}{v:AV}(h:aM P fid o.op (.len str x)=true)(j:aK r (.len str x)=some v):Yields P fid g w a o v:=by
 obtain⟨dst,op,ty,pos,after,guard⟩:=o;cases op with
 |call c=>
  obtain⟨callee,args,argTypes⟩:=c;cases callee with
  |builtin b=>
   cases b with
   |len=>
    simp only[aM]at h;split at h
    ·rename_i y t M K
     simp only[aQ]at h;obtain⟨I,l⟩:=h;have D:args= #[y]:=by cases args;simp_all
     have F:argTypes= #[t]:=by cases argTypes;simp_all
     subst D;subst F
     have H:=fun v p=>bG (w:=w) hr I (v:=v) p
     cases str with
     |true=>
      simp only[aK]at j;split at j
      ·rename_i s p
       simp at j;subst j
       have:=tu (H _ p);refine⟨.int .i64 s.size,?_,.d _ _ (.int _ _)⟩;split at l
       ·rename_i C;simp[execOp,resolve,invoke,builtin,Builtin.len_,this,underlying,C,goInt]
       ·simp at l
       ·simp at l
      ·simp at j
     |false=>
      simp only[aK]at j;split at j
      ·rename_i J xs p
       simp at j;subst j
       have z:=dr (H _ p);generalize G:a.eval y=q at z;refine⟨.int .i64 xs.length,?_,.d _ _ (.int _ _)⟩;split at l
       ·simp at l
       ·rename_i e C
        cases z<;>simp[execOp,resolve,invoke,builtin,Builtin.len_,G,underlying,C,goInt]
       ·simp at l
      ·rename_i id ag i sz n p
       simp at j;subst j
       have z:=H _ p;generalize G:a.eval y=q at z;refine⟨.int .i64 n,?_,.d _ _ (.int _ _)⟩;split at l
       ·simp at l
       ·rename_i e C
        cases z<;>simp[execOp,resolve,invoke,builtin,Builtin.len_,G,underlying,C,goInt]
       ·simp at l
      ·rename_i ag i sz n p
       simp at j;subst j
       have z:=H _ p;generalize G:a.eval y=q at z;refine⟨.int .i64 n,?_,.d _ _ (.int _ _)⟩;split at l
       ·simp at l
       ·rename_i e C
        cases z<;>simp[execOp,resolve,invoke,builtin,Builtin.len_,G,underlying,C,goInt]
       ·simp at l
      ·simp at j
    ·simp at h
   |_=>simp[aM]at h
  |_=>simp[aM]at h
 |_=>simp[aM]at h
theorem Vd{b:BinOp}{v:AV}(h:aM P fid o.op (.bin b x y)=true)(l:aK r (.bin b x y)=some v):Yields P fid g w a o v:=by
 obtain⟨dst,op,ty,pos,after,guard⟩:=o;cases op with
 |unOp u t z=>
  cases u with
  |neg=>
   cases x with
   |t n=>simp[aM]at h
   |c X=>
    cases X with
    |d Y=>
     cases Y with
     |int k n=>
      simp only[aM,aQ,bu]at h;obtain⟨⟨rfl,rfl⟩,M⟩:=h;simp only[aK,VX.get]at l;split at l
      ·rename_i Q H F K
       simp at F;subst F
       obtain⟨d,j,rfl⟩:=ay.1 l;have D:=bG (w:=w) hr M K;cases H with
       |int k' n=>
        have p:=eO D;simp only[fV]at j;split at j
        ·rename_i J
         subst J;simp only[dm,aL]at j;subst j;exact⟨_,by simp[execOp,p,Op.unary,Op.intArith],.d _ _ (.int _ _)⟩
        ·simp at j
       |_=>simp[fV]at j
      ·simp at l
     |_=>simp[aM]at h
    |_=>simp[aM]at h
  |_=>simp[aM]at h
 |binOp q t x' G W=>
  simp only[aM,aQ,bu]at h;obtain⟨⟨⟨rfl,M⟩,V⟩,h3⟩:=h;simp only[aK]at l;split at l
  ·rename_i Q H F K
   obtain⟨d,j,rfl⟩:=ay.1 l;have R:=bG (w:=w) hr M F;have D:=bG (w:=w) hr V K;cases Q with
   |int k m=>
    cases H with
    |int k' n=>
     have C:=eO R;have p:=eO D;have O:(eqGuard q t x' G (a.eval x') (a.eval G)).run P w= .ok () w:=by rw[C,p];unfold eqGuard;split<;>simp
     cases q<;>simp only[fV]at j
     all_goals (first
      |(split at j<;>first|(simp at j;done)|skip)
      |skip)
     all_goals (try (rename_i J;subst J))
     all_goals (simp only[dm,cmp,bits,bH]at j)
     all_goals (try (split at j))
     all_goals (try (simp at j;done))
     all_goals (simp only[aL]at j;subst j)
     all_goals (refine⟨_,?_,.d _ _ (by constructor)⟩)
     all_goals (simp_all[execOp,binOp,Op.shift,Op.intArith,Op.intDiv,Op.intBits,Op.intCmp])
     all_goals (intro Z;omega)
    |_=>cases q<;>simp[fV]at j
   |str s=>
    cases H with
    |str s'=>
     have C:=tu R;have p:=tu D;have O:(eqGuard q t x' G (a.eval x') (a.eval G)).run P w= .ok () w:=by rw[C,p];unfold eqGuard;split<;>simp
     cases q<;>simp only[fV]at j
     all_goals (try (simp at j;done))
     ·split at j
      ·rename_i S
       simp only[aL]at j;subst j
       refine⟨_,?_,.d _ _ (by constructor)⟩;have:¬(((s.size+s'.size:Nat):Int)>IntKind.i64.max):=by
        have:IntKind.i64.max=9223372036854775807:=by decide
        omega
       rw[C,p]at O;have I:¬(9223372036854775807<(s.size:Int)+(s'.size:Int)):=by omega
       simp[execOp,binOp,Op.stringOp,C,p,O,I,IntKind.max,IntKind.signed,IntKind.bits]
      ·simp at j
     all_goals (simp only[aL]at j;subst j)
     all_goals (refine⟨_,?_,.d _ _ (by constructor)⟩)
     all_goals (simp_all[execOp,binOp,Op.stringOp,gg])
    |_=>simp[fV]at j
   |_=>simp[fV]at j
  ·simp at l
 |_=>simp[aM]at h
end
end
variable{e:TypeId}{neg:Bool}{xh xl:iq}{oh ol:MJ}{h' cap l':Nat}{hi lo:bc}
section
variable {P:Program} {fid:Nat->FuncId} {g:Gh} {w:World}
theorem P7{t:TypeId}(c:P.underlying t=some .bool)(a b:Bool):(Op.equal t (.bool a) (.bool b)).run P w= .ok (a==b) w:=by have e:Op.equal t (.bool a) (.bool b)=Op.equalIn (9999+1) t (.bool a) (.bool b):=rfl;rw[e,Op.equalIn];simp[underlying,c]
theorem GP{t:TypeId}(d:P.underlying t=some (.slice e))(a:ib)(n c:Nat):(Op.equal t (.slice a n c) (.slice none 0 0)).run P w= .ok a.isNone w:=by have e:Op.equal t (.slice a n c) (.slice none 0 0)=Op.equalIn (9999+1) t (.slice a n c) (.slice none 0 0):=rfl;rw[e,Op.equalIn];cases a<;>simp[underlying,d]
section
variable {a:Act} {r:aE} (hr:qdc fid g w r a.tmps)
include hr
theorem OA{v:AV}(h:aM P fid o.op (.eqB neg x y)=true)(c:aK r (.eqB neg x y)=some v):Yields P fid g w a o v:=by
 obtain⟨dst,op,ty,pos,after,guard⟩:=o;cases op with
 |binOp q t x' F s=>
  simp only[aM,aQ,bu]at h;obtain⟨⟨⟨l,I⟩,p⟩,j⟩:=h;split at j
  ·rename_i G
   simp only[aK]at c;split at c
   ·rename_i H J C D
    simp at c;subst c
    have z:=jq (bG (w:=w) hr I C);have M:=jq (bG (w:=w) hr p D);have K:(eqGuard q t x' F (.bool H) (.bool J)).run P w= .ok () w:=by unfold eqGuard;split<;>simp
    refine⟨_,?_,.d _ _ (.bool _)⟩;cases neg<;>simp at l<;>subst l<;>simp[execOp,z,M,K,binOp,P7 G]
   ·simp at c
  ·simp at j
 |_=>simp[aM]at h
theorem RQ{v:AV}(h:aM P fid o.op (.eqNil neg x)=true)(l:aK r (.eqNil neg x)=some v):Yields P fid g w a o v:=by
 obtain⟨dst,op,ty,pos,after,guard⟩:=o;cases op with
 |binOp J t x' G K=>
  simp only[aM,aQ,bu]at h;obtain⟨⟨⟨p,R⟩,C⟩,M⟩:=h;have F:a.eval G= .slice none 0 0:=by
   unfold Lj at C;split at C
   ·rfl
   ·simp at C
  obtain⟨e,j⟩:=oU.1 M;have H:P.underlying t=some (.slice e):=by
   unfold kb at j;split at j
   ·rename_i z;simp at j;subst j;exact z
   ·simp at j
  simp only[aK]at l;split at l
  ·rename_i S xs Q
   simp at l;subst l
   have D:=dr (bG (w:=w) hr R Q);generalize z:a.eval x'=q at D;have I:∀ad n c,(eqGuard J t x' G (.slice ad n c) (.slice none 0 0)).run P w= .ok () w:=by intro ad n c;unfold eqGuard;split<;>simp
   refine⟨_,?_,.d _ _ (.bool _)⟩;cases D with
   |nil=>cases neg<;>simp at p<;>subst p<;>simp[execOp,z,F,I,binOp,GP H]
   |row _ _ ad c s U O=>cases neg<;>simp at p<;>subst p<;>simp[execOp,z,F,I,binOp,GP H,O]
  ·simp at l
 |_=>simp[aM]at h
theorem qSD{v:AV}(h:aM P fid o.op (.conv (.kind k) x)=true)(l:aK r (.conv (.kind k) x)=some v):Yields P fid g w a o v:=by
 obtain⟨dst,op,ty,pos,after,guard⟩:=o;cases op with
 |convert src j y=>
  simp only[aM,aQ,bu]at h;obtain⟨⟨D,q⟩,c⟩:=h;have C:P.underlying j=some (.int k):=by
   unfold vw at c;split at c
   ·rename_i s;simp at c;subst c;exact s
   ·simp at c
  obtain⟨p,F⟩:∃p,P.underlying src=some (.int p):=by
   unfold isInt at q;split at q
   ·rename_i p s;exact⟨p,s⟩
   ·simp at q
  simp only[aK]at l;split at l
  ·rename_i G n z
   simp at l;subst l
   have t:=eO (bG (w:=w) hr D z);refine⟨_,?_,.d _ _ (.int _ _)⟩;simp[execOp,convert,t,underlying,C,F,Conv.intToInt]
  ·simp at l
 |_=>simp[aM]at h
theorem TX{v:AV}(h:aM P fid o.op (.conv .rune x)=true)(j:aK r (.conv .rune x)=some v):Yields P fid g w a o v:=by
 obtain⟨dst,op,ty,pos,after,guard⟩:=o;cases op with
 |convert src c y=>
  simp only[aM,aQ]at h;obtain⟨⟨D,p⟩,q⟩:=h;have C:P.underlying c=some .string:=by
   unfold pX at q;split at q
   ·rename_i s;exact s
   ·simp at q
  obtain⟨l,F⟩:∃l,P.underlying src=some (.int l):=by
   unfold isInt at p;split at p
   ·rename_i l s;exact⟨l,s⟩
   ·simp at p
  simp only[aK]at j;split at j
  ·rename_i G n z
   simp at j;subst j
   have t:=eO (bG (w:=w) hr D z);refine⟨_,?_,.d _ _ (.str _)⟩;simp[execOp,convert,t,underlying,C,F,Conv.intToString]
  ·simp at j
 |_=>simp[aM]at h
theorem QW{i:VX}{v:AV}(h:aM P fid o.op (.index x i)=true)(l:aK r (.index x i)=some v):Yields P fid g w a o v:=by
 obtain⟨dst,op,ty,pos,after,guard⟩:=o;cases op with
 |index t y j=>
  simp only[aM,aQ]at h;obtain⟨⟨p,H⟩,z⟩:=h;have F:P.underlying t=some .string:=by
   unfold pX at p;split at p
   ·rename_i I;exact I
   ·simp at p
  simp only[aK]at l;split at l
  ·rename_i s k n D hi
   split at l
   ·rename_i G
    obtain⟨b,q,rfl⟩:=ay.1 l;unfold ng at q;obtain⟨c,hc,rfl⟩:=ay.1 q;have C:=tu (bG (w:=w) hr H D);have J:=eO (bG (w:=w) hr z hi);refine⟨.int .u8 c.toNat,?_,.d _ _ (.int _ _)⟩;simp[execOp,Instr.index,C,J,asIntOf,underlying,F,G,hc]
   ·simp at l
  ·simp at l
 |_=>simp[aM]at h
theorem UY{len:Nat}(c:fk len hi=some h')(p:len<=cap)(h:iY fid oh xh=true)(j:dz r xh=some hi)(l:Bool):
 (match (oh.map a.eval:Option Value)with
  |some v=>Instr.sliceBound v cap (if l then .sliceAcap else .sliceAlen)
  |none=>pure len).run P w= .ok h' w/\h'<=len:=by
 cases oh with
 |none=>
  cases xh with
  |none=>
   simp[dz]at j;subst j
   simp[fk]at c;subst c
   exact⟨by simp,bf _⟩
  |some x=>simp[iY]at h
 |some o=>
  cases xh with
  |none=>simp[iY]at h
  |some x=>
   simp[iY]at h;simp[dz]at j;obtain⟨v,q,rfl⟩:=j;simp only[fk]at c;obtain⟨n,d,c⟩:=az.1 c;split at c
   ·rename_i hc
    simp at c;subst c
    unfold j8 at d;split at d
    ·rename_i k m
     simp at d;subst d
     have e:=eO (bG (w:=w) hr h q);refine⟨?_,hc.2⟩;simp[e,Instr.sliceBound,asIntOf,hc.1];intro s;omega
    ·simp at d
   ·simp at c
theorem WK(c:fj h' lo=some l')(j:iY fid ol xl=true)(h:dz r xl=some lo)(code:BoundsCode):
 (match (ol.map a.eval:Option Value)with
  |some v=>Instr.sliceBound v h' code
  |none=>pure 0).run P w= .ok l' w/\l'<=h':=by
 cases ol with
 |none=>
  cases xl with
  |none=>
   simp[dz]at h;subst h
   simp[fj]at c;subst c
   exact⟨by simp,db _⟩
  |some x=>simp[iY]at j
 |some o=>
  cases xl with
  |none=>simp[iY]at j
  |some x=>
   simp[iY]at j;simp[dz]at h;obtain⟨v,l,rfl⟩:=h;simp only[fj]at c;obtain⟨n,d,c⟩:=az.1 c;split at c
   ·rename_i hc
    simp at c;subst c
    unfold j8 at d;split at d
    ·rename_i k m
     simp at d;subst d
     have e:=eO (bG (w:=w) hr j l);refine⟨?_,hc.2⟩;simp[e,Instr.sliceBound,asIntOf,hc.1];intro p;omega
    ·simp at d
   ·simp at c
theorem Dz{len:Nat}(C:fk len hi=some h')(z:fj h' lo=some l')(l:len<=cap)
 (t:iY fid oh xh=true) (q:dz r xh=some hi) (p:iY fid ol xl=true) (j:dz r xl=some lo) (h:Bool):
 (Instr.sliceBounds h len cap (ol.map a.eval) (oh.map a.eval) none).run P w= .ok (l',h',cap) w/\h'<=len/\l'<=h':=by
 obtain⟨c,s⟩:=UY (P:=P) (w:=w) hr C l t q h;obtain⟨d,D⟩:=WK (P:=P) (w:=w) hr z p j .sliceB;refine⟨?_,s,D⟩;cases oh<;>cases ol<;>simp only[bH,E9]at c d⊢<;>simp[Instr.sliceBounds]<;>(try simp at c)<;>(try simp at d)
 ·exact⟨d,c⟩
 ·subst c;rw[d];simp
 ·rw[c];simp[d]
 ·rw[c];simp[d]
theorem qIq{lo hi:iq}{v:AV}(h:aM P fid o.op (.slice true sz x lo hi)=true)(c:aK r (.slice true sz x lo hi)=some v):Yields P fid g w a o v:=by
 obtain⟨dst,op,ty,pos,after,guard⟩:=o;cases op with
 |slice t y l' h' m=>
  cases m with
  |some m=>simp[aM]at h
  |none=>
   simp only[aM,aQ]at h;obtain⟨⟨⟨z,D⟩,p⟩,j⟩:=h;split at j
   ·rename_i q
    simp only[aK]at c;split at c
    ·rename_i s Q O J G l
     obtain⟨K,C,c⟩:=az.1 c;obtain⟨F,M,rfl⟩:=ay.1 c;have H:=tu (bG (w:=w) hr z J);obtain⟨I,_,_⟩:=Dz (P:=P) (w:=w) hr C M (bf _) p l D G false;refine⟨.string (s.extract F K),?_,.d _ _ (.str _)⟩;simp[execOp,Instr.sliceAt,Instr.slice,underlying,q,H,I]
    ·simp at c
   ·simp at j
   ·simp at j
 |_=>simp[aM]at h
theorem P2{lo hi:iq}{v:AV}(h:aM P fid o.op (.slice false sz x lo hi)=true)(C:aK r (.slice false sz x lo hi)=some v):Yields P fid g w a o v:=by
 obtain⟨dst,op,ty,pos,after,guard⟩:=o;cases op with
 |slice t y l' h' m=>
  cases m with
  |some m=>simp[aM]at h
  |none=>
   simp only[aM,aQ]at h;obtain⟨⟨⟨h1,h2⟩,h3⟩,D⟩:=h;split at D
   ·simp at D
   ·rename_i e hu
    simp at D;obtain⟨Q,O,x3⟩:∃Q,P.info? e=some Q/\Q.size=sz:=by unfold eT at D;obtain⟨Q,D,Z⟩:=ay.1 D;exact⟨Q,D,Z⟩
    simp only[aK]at C;split at C
    ·rename_i tg xs vl vh hx hl Y
     split at C
     ·rename_i S
      obtain⟨J,Z,C⟩:=az.1 C;obtain⟨p,h6,rfl⟩:=ay.1 C;have F:=dr (bG (w:=w) hr h1 hx);generalize hq:a.eval y=q at F;cases F with
      |nil=>
       obtain⟨hb,K,W⟩:=Dz (P:=P) (w:=w) hr Z h6 (bf _) h3 Y h2 hl true;simp at K;subst K;simp at W;subst W
       refine⟨.slice none 0 0,?_,.d _ _ (by simpa using VR.nil)⟩;simp at hb;simp[execOp,Instr.sliceAt,Instr.slice,underlying,hu,hq,hb,sizeOf,typeInfo,O]
      |row _ _ ad c s U ht X hm z hK M x1 b1=>
       obtain⟨hb,K,W⟩:=Dz (P:=P) (w:=w) (cap:=c) hr Z h6 X h3 Y h2 hl true;have hs:xs≠[]->s=sz:=by intro l;obtain⟨e0,V⟩:=nc xs l;obtain⟨i,hi⟩:=dH.1 V;have h9:=(M i e0 hi).1;have a1:=(bB.1 S) e0 V;simp at a1;omega
       have I:((xs.take J).drop p).length=J-p:=by simp;omega
       refine⟨.slice (some (if c=p then ad else ad.add (p*sz))) (J-p) (c-p),?_,.d _ _ ?_⟩
       ·simp[execOp,Instr.sliceAt,Instr.slice,underlying,hu,hq,hb,sizeOf,typeInfo,O,x3]
        split<;>simp
       ·have a2:(if tg=Tag.nil then Tag.nil else Tag.sub)=Tag.sub:=au ht
        rw[a2,<-I]
        by_cases l:xs=[]
        ·subst l
         simp at K;subst K;simp at W;subst W
         exact .row _ _ _ _ s U (by simp) (by simp) (by omega) (by simp) (by simp) (by simp) (by simp) (by simp)
        ·have hs:=hs l
         subst hs
         by_cases R:c=p
         ·have:(xs.take J).drop p=[]:=nQ (by omega)
          rw[this,aw R];exact .row _ _ _ _ s U (by simp) (by simp) (by omega) (by simp) (by simp) (by simp) (by simp) (by simp)
         ·rw[au R]
          have a3:J*s<=xs.length*s:=fP s K;have x2:p*s+(J-p)*s=J*s:=by rw[<-Nat.add_mul];congr 1;omega
          have H:0<s->ad.spot=none:=by
           intro G;have:=z 0 (Nat.mul_pos (wC.2 l) G);unfold World.cell? Addr.add at this;simp at this;split at this
           ·split at this
            ·simp at this
            ·rename_i Y;simpa using Y
           ·simp at this
          refine .row _ _ _ _ s (fun k=>U (p*s+k)) (by simp) (by omega) (by omega) (fun k hk=> ?_) ?_ (fun i x hi=> ?_) (fun i x j v hi hj=> ?_) (by simp)
          ·rw[I]at hk
           have G:0<s:=by
            rcases kY s with h0|h0
            ·rw[h0]at hk;simp at hk
            ·exact h0
           rw[add_add _ _ _ (H G)];exact z _ (by omega)
          ·rw[nL,add_block,I];omega
          ·rw[gP,eY]at hi
           split at hi
           ·exact M _ _ hi
           ·simp at hi
          ·rw[gP,eY]at hi
           split at hi
           ·have:=x1 _ _ _ _ hi hj
            rw[dF,Fp]at this;exact this
           ·simp at hi
     ·simp at C
    ·simp at C
   ·simp at D
 |_=>simp[aM]at h
end
end
section
variable {P:Program} {fid:Nat->FuncId} {g:Gh} {w:World}
theorem uk{t:TypeId}(h:eT P t=some sz):∃c,P.info? t=some c/\c.size=sz:=by unfold eT at h;obtain⟨c,j,d⟩:=ay.1 h;exact⟨c,j,d⟩
theorem qVm{t:TypeId}(h:pw P t=some b):(isAgg t).run P w= .ok b w:=by unfold pw at h;obtain⟨d,j,c⟩:=ay.1 h;simp[isAgg,underlying,j];subst c;cases d<;>simp
theorem qS{t:TypeId}(h:kb P t=some e):P.underlying t=some (.slice e):=by
 unfold kb at h;split at h
 ·rename_i c;simp at h;subst h;exact c
 ·simp at h
theorem te{t:TypeId}{d:TypeDesc}(h:P.underlying t=some d):(underlying t).run P w= .ok d w:=by simp[underlying,h]
theorem qi{t:TypeId}(h:eT P t=some sz):(sizeOf t).run P w= .ok sz w:=by obtain⟨j,d,c⟩:=uk h;simp[sizeOf,typeInfo,d,c]
theorem GT(f:Value->ByteArray->Sem (ForInStep ByteArray))(t:∀n r,f (.int .u8 n) r=pure (ForInStep.yield (r.push (UInt8.ofNat n.toNat)))):∀(xs:al) (us:bW) (bs:List UInt8) (s:ByteArray),bytesOf xs=some bs->us.length=xs.length->(∀(j:Nat) (v:DV) (u:Value),xs[j]?=some v->us[j]?=some u->VR g w v u)->
 (forIn us s f).run P w= .ok ⟨s.data++bs.toArray⟩ w
 | [],us,bs,s,c,h,_=>by
  simp[bytesOf]at c;subst c
  have:us=[]:=nQ (by simpa using h);subst this;simp
 |x::xs,us,bs,s,c,h,q=>by
  cases us with
  |nil=>simp at h
  |cons u us=>
   have D:=q 0 x u rfl rfl;unfold bytesOf at c;split at c
   ·simp_all
   ·rename_i n r d
    simp at d;obtain⟨rfl,rfl⟩:=d;obtain⟨p,l,rfl⟩:=ay.1 c;cases D;have F:=GT f t xs us p (s.push (UInt8.ofNat n.toNat)) l (by simpa using h) (fun j v u C z=>q (j+1) v u (by simpa using C) (by simpa using z));simp only[List.forIn_cons,Sem.run_bind,t,Sem.run_pure,Result.andThen_ok];rw[F]
    congr 2
    simp[ByteArray.push]
   ·simp at c
theorem Hj(off:Nat):∀(vs:bW) (k:Nat) (arr:cA),off+k+vs.length<=arr.size->
 ((vs.zipIdx k).foldl (fun cs x=>cs.setIfInBounds (off+x.2) x.1) arr).size=arr.size/\
 ∀j,((vs.zipIdx k).foldl (fun cs x=>cs.setIfInBounds (off+x.2) x.1) arr)[j]?=if off+k<=j/\j<off+k+vs.length then vs[j-(off+k)]? else arr[j]?
 | [],k,arr,h=>⟨rfl,fun j=>by simp;intro d c;omega⟩
 |v::vs,k,arr,h=>by
  simp only[List.zipIdx_cons,xK];obtain⟨d,c⟩:=Hj off vs (k+1) (arr.setIfInBounds (off+k) v) (by simp at h⊢;omega);refine⟨by rw[d];simp,fun j=> ?_⟩;rw[c];simp only[de]at h
  by_cases p:j=off+k
  ·subst p
   rw[au (by omega),aw (by simp only[de];omega)];simp;rw[Array.getElem?_setIfInBounds_self_of_lt (by omega)]
  ·by_cases hr:off+(k+1)<=j/\j<off+(k+1)+vs.length
   ·rw[aw hr,aw (by simp;omega)]
    obtain⟨m,rfl⟩:∃m,j=off+(k+1)+m:=⟨j-(off+(k+1)),by omega⟩;have l:off+(k+1)+m-(off+(k+1))=m:=by omega
    have q:off+(k+1)+m-(off+k)=m+1:=by omega
    rw[l,q];rfl
   ·rw[au hr,au (by simp;omega)]
    rw[kg (by omega)]
theorem ke(cs:List α)(off:Nat)(new:List α)(h:off+new.length<=cs.length)(j:Nat):
 (splice cs off new)[j]?=if off<=j/\j<off+new.length then new[j-off]? else cs[j]?:=by
 unfold splice;have l:(cs.take off).length=off:=by simp;omega
 by_cases c:j<off
 ·rw[au (by omega),cr,cf (by omega),eY,aw c]
 ·by_cases d:j<off+new.length
  ·rw[aw ⟨by omega,d⟩,cr,cF (by omega),cf (by omega),l]
  ·rw[au (by omega),cF (by simp;omega),gP]
   congr 1
   simp;omega
theorem kK(cs:List α)(off:Nat)(new:List α)(h:off+new.length<=cs.length):(splice cs off new).length=cs.length:=by simp[splice];omega
def qeu(g:Gh)(w:World)(cs:al)(arr:cA):Prop:=arr.size=cs.length/\(∀v,v∈cs->v.isCell=true)/\∀(j:Nat) (v:DV) (u:Value),cs[j]?=some v->arr[j]?=some u->VR g w v u
theorem HQ{us:cA}(h:io us.toList vs=true):qeu g w vs us:=⟨by simpa using wT h,fun v l=>Lm h v l,fun j v u d c=>(B5 (v9 h j v u d (by simpa using c))).1⟩
theorem qeu.put{arr:cA}(h:qeu g w cs arr){v:DV}(D:VR g w v u)(hc:v.cells.all DV.isCell=true)(d:off+v.cells.length<=cs.length):
 qeu g w (splice cs off v.cells) (u.cells.zipIdx.foldl (fun cs (c,j)=>cs.setIfInBounds (off+j) c) arr)/\u.cells.size=v.cells.length:=by
 have s:∀c,c∈v.cells->c.isCell=true:=fun c H=>(bB.1 hc) c H
 obtain⟨C,z,I⟩:=Fq D s;have l:(u.cells.zipIdx.foldl (fun cs (c,j)=>cs.setIfInBounds (off+j) c) arr)=(u.cells.toList.zipIdx 0).foldl (fun cs x=>cs.setIfInBounds (off+x.2) x.1) arr:=by rw[<-Array.foldl_toList,Array.toList_zipIdx]
 rw[l];obtain⟨G,F⟩:=Hj off u.cells.toList 0 arr (by simp;have:=h.1;omega);refine⟨⟨by rw[G,kK _ _ _ d];exact h.1,fun x p=> ?_,fun j x y p q=> ?_⟩,C⟩
 ·obtain⟨j,t⟩:=dH.1 p
  rw[ke _ _ _ d]at t;split at t
  ·exact s x (cg t)
  ·exact h.2.1 x (cg t)
 ·rw[ke _ _ _ d]at p
  rw[F]at q;simp at q
  by_cases hc:off<=j/\j<off+v.cells.length
  ·rw[aw hc]at p
   rw[aw (by omega)]at q;exact z _ _ _ p q
  ·rw[au hc]at p
   rw[au (by omega)]at q;exact h.2.2 _ _ _ p q
theorem Dw{r:aE}(hr:qdc fid g w r a.tmps)(place:Nat->Option (Nat×Nat)):∀(ps:xO) (d:iX) (cs c:al) (arr:cA),
 lT fid place ps d=true->ez (VX.get r) cs d=some c->qeu g w cs arr->
 ∃arr',Instr.fill place arr (ps.map fun q=>(q.1,a.eval q.2))=some arr'/\qeu g w c arr'
 | [],[],cs,c,arr,_,h,hc=>by simp[ez]at h;subst h;exact⟨arr,rfl,hc⟩
 |(i,o)::ps,(off,size,x)::d,cs,c,arr,l,h,hc=>by
  simp only[lT,aQ,fa]at l;obtain⟨⟨C,z⟩,I⟩:=l;simp only[ez]at h;split at h
  ·rename_i v J
   split at h
   ·rename_i j
    obtain⟨rfl,s,p⟩:=j;have D:=dr (bG (w:=w) hr z J);obtain⟨t,F⟩:=hc.put D p s;obtain⟨arr',G,H⟩:=Dw hr place ps d _ c _ I h t;refine⟨arr',?_,H⟩;simp only[bA,Instr.fill,C];rw[au (by have:=hc.1;simp;omega)];exact G
   ·simp at h
  ·simp at h
 | [],_::_,_,_,_,h,_,_=>by simp[lT]at h
 |_::_,[],_,_,_,h,_,_=>by simp[lT]at h
section
variable {a:Act} {r:aE} (hr:qdc fid g w r a.tmps)
include hr
theorem WB{v:AV}(h:aM P fid o.op (.conv .bytes x)=true)(W:aK r (.conv .bytes x)=some v):Yields P fid g w a o v:=by
 obtain⟨dst,op,ty,pos,after,guard⟩:=o;cases op with
 |convert src R y=>
  simp only[aM,aQ]at h;obtain⟨⟨h1,Z⟩,C⟩:=h;have hd:P.underlying R=some .string:=by
   unfold pX at Z;split at Z
   ·rename_i H;exact H
   ·simp at Z
  split at C
  ·rename_i e O
   have hs:=qS O;simp at C;have hk:P.underlying e=some (.int .u8):=by
    unfold vw at C;split at C
    ·rename_i H;simp at C;subst C;exact H
    ·simp at C
   simp only[aK]at W;split at W
   ·rename_i tg xs hx
    obtain⟨bs,l,rfl⟩:=ay.1 W;have F:=dr (bG (w:=w) hr h1 hx);generalize H:a.eval y=q at F;cases F with
    |nil=>
     simp[bytesOf]at l;subst l
     refine⟨.string .empty,?_,.d _ _ ?_⟩
     ·simp[execOp,convert,H,underlying,hs,hd,hk,Conv.bytesToString]
     ·exact .str _
    |row _ _ ad c s U ht x3 V G hK M J S=>
     refine⟨.string ⟨bs.toArray⟩,?_,.d _ _ (.str _)⟩;have D:xs≠[]->s=1:=by
      intro x2;cases xs with
      |nil=>exact absurd rfl x2
      |cons x xs=>
       have h9:=(M 0 x rfl).1;unfold bytesOf at l;split at l
       ·simp_all
       ·rename_i n r p
        simp at p;obtain⟨rfl,rfl⟩:=p;simpa[DV.cells]using h9.symm
       ·simp at l
     have t:(loadCells ad xs.length).run P w= .ok ((List.range xs.length).map U).toArray w:=run_loadCells w ad _ U (fun j hj=>by
      have:xs≠[]:=fun O=>by simp[O]at hj
      have:=D this;subst this;exact G j (by omega))
     have hl:=fun f hf=>GT (P:=P) (g:=g) (w:=w) f hf xs ((List.range xs.length).map U) bs .empty l (by simp) (fun j v u X h5=>by
      have Q:j<xs.length:=(aU.1 X).1;have:xs≠[]:=fun O=>by simp[O]at Q
      have:=D this;subst this;simp[Q]at h5;subst h5;have hc:v.cells=[v]:=by
       cases v with
       |agg cs=>
        have:=M _ _ X;exfalso;clear J S t;have I:DV.agg cs∈xs:=cg X;have:∀(Y:al) (bs:List UInt8),bytesOf Y=some bs->DV.agg cs∉Y:=by
         intro Y
         induction Y with
         |nil=>intro _ _ V;simp at V
         |cons z zs ih=>
          intro bs l V;unfold bytesOf at l;split at l
          ·simp_all
          ·rename_i n r p
           simp at p;obtain⟨rfl,rfl⟩:=p;obtain⟨a1,x1,rfl⟩:=ay.1 l;simp at V;exact ih _ x1 V
          ·simp at l
        exact this xs bs l I
       |_=>rfl
      have:=J j v 0 v X (by rw[hc];rfl);simpa using this)
     have K:(ByteArray.empty.data++bs.toArray)=bs.toArray:=by show #[]++bs.toArray=_;simp
     simp only[K]at hl;simp only[execOp,convert,H,Sem.run_bind,te hs,te hd,te hk,Result.andThen_ok,Conv.bytesToString,t,List.forIn_toArray];rw[hl _ (fun _ _=>rfl)];simp
   ·simp at W
  ·simp at C
 |_=>simp[aM]at h
theorem Pk{z:al}{j:iX}{v:AV}(h:aM P fid o.op (.build z j)=true)(I:aK r (.build z j)=some v):Yields P fid g w a o v:=by
 obtain⟨dst,op,ty,pos,after,guard⟩:=o;cases op with
 |build t ps=>
  simp only[aM,aQ]at h;obtain⟨p,F⟩:=h;split at F
  ·rename_i pl c
   unfold wc at p;split at p
   ·rename_i O K
    obtain⟨it,l,hzero⟩:=az.1 K;simp only[aK]at I;obtain⟨cs,s,rfl⟩:=ay.1 I;obtain⟨arr,H,D⟩:=Dw hr pl ps.toList j z cs O.cells F s (HQ p);have M:P.built t (ps.map fun(i,x)=>(i,a.eval x)).toList=some arr:=by
     have e:(ps.map fun(i,x)=>(i,a.eval x)).toList=ps.toList.map fun q=>(q.1,a.eval q.2):=by simp
     rw[e];unfold HE at c;unfold Program.built;split at c
     ·rename_i n R C
      obtain⟨Q,G,rfl⟩:=ay.1 c;simp[l,C,hzero,G];exact H
     ·rename_i fs C
      obtain⟨places,J,rfl⟩:=ay.1 c;simp[l,C,hzero,J];simpa using H
     ·simp at c
    refine⟨.agg arr,?_,.d _ _ (.agg _ _ D.1 D.2.1 D.2.2)⟩;simp only[execOp,Sem.run_bind];rw[run_build w t _ arr M];simp
   ·simp at p
  ·simp at F
 |_=>simp[aM]at h
end
end
variable {P:Program} {fid:Nat->FuncId} {g:Gh} {w:World}
theorem Hp(d:Nat){p:al}{xs F:cA}(O:qeu g w cs xs)(Q:qeu g w p F):
 ∀(fs:List Field) (ks:ae) (i:Nat) (b:Bool),oL P i fs ks=true->eB ks (cs.drop i) (p.drop i)=some b->
  (Op.eqFields (d+1) xs F fs).run P w= .ok b w
 | [],[],i,b,_,l=>by
  unfold eB at l;split at l<;>simp_all
  simp[Op.eqFields]
 |f::fs,k::ks,i,b,W,l=>by
  simp only[oL,aQ,bu]at W;obtain⟨⟨⟨K,G⟩,j⟩,H⟩:=W;subst K;have l1:f.offset<cs.length:=by
   rcases eN f.offset cs.length with h|h
   ·exact h
   ·rw[ki h]at l;unfold eB at l;split at l<;>simp_all
  have X:f.offset<p.length:=by
   rcases eN f.offset p.length with h|h
   ·exact h
   ·rw[ki h]at l;unfold eB at l;split at l<;>simp_all
  have lx:f.offset<xs.size:=by have:=O.1;omega
  have ly:f.offset<F.size:=by have:=Q.1;omega
  have vx:=O.2.2 f.offset cs[f.offset] xs[f.offset] (by simp) (by simp);have J:=Q.2.2 f.offset p[f.offset] F[f.offset] (by simp) (by simp);rw[dl l1,dl X]at l;have S:=fun b h=>Hp d O Q fs ks (f.offset+1) b H h
  have z:f.name≠ "_":=by simpa using G
  have R:(isAgg f.type).run P w= .ok false w:=by
   split at j
   ·rename_i s;simp[isAgg,underlying,s]
   ·rename_i s;simp[isAgg,underlying,s]
   ·rename_i s;simp[isAgg,underlying,s]
   ·simp at j
  have t:∀(M:cA) (V:f.offset<M.size),(part f.type M f.offset).run P w= .ok M[f.offset] w:=by intro M V;simp[part,R,V]
  simp only[Op.eqFields,z,fw,jT,if_true,Sem.run_bind,t xs lx,t F ly,Result.andThen_ok];generalize xs[f.offset]=q at vx⊢
  generalize F[f.offset]=q' at J⊢
  generalize cs[f.offset]=c at vx l;generalize p[f.offset]=c' at J l;have I:∀(e:Bool) (o:mx),(if e=true then o else o.map fun _=>false)=some b->(∀b,o=some b->(Op.eqFields (d+1) xs F fs).run P w= .ok b w)->
   (if(!e)=true then(pure false:Sem Bool)else Op.eqFields (d+1) xs F fs).run P w= .ok b w:=by
   intro e o h Y;cases e with
   |true=>exact Y b (by simpa using h)
   |false=>simp at h;simp[h.2]
  unfold eB at l;split at l
  ·simp_all
  ·rename_i D C e3
   simp at D C e3;obtain⟨rfl,rfl⟩:=D;obtain⟨rfl,rfl⟩:=C;obtain⟨rfl,rfl⟩:=e3;split at l
   ·rename_i Z
    subst Z;cases vx;cases J
    split at j
    ·simp at j
    ·rename_i k0 s
     rw[run_equalIn_int w d f.type _ k0 _ _ s];exact I _ _ l S
    ·simp at j
    ·simp at j
   ·simp at l
  ·rename_i D C e3
   simp at D C e3;obtain⟨rfl,rfl⟩:=D;obtain⟨rfl,rfl⟩:=C;obtain⟨rfl,rfl⟩:=e3;cases vx;cases J
   split at j
   ·rename_i s
    rw[run_equalIn_bool' w d f.type _ _ s];exact I _ _ l S
   ·simp at j
   ·simp at j
   ·simp at j
  ·rename_i D C e3
   simp at D C e3;obtain⟨rfl,rfl⟩:=D;obtain⟨rfl,rfl⟩:=C;obtain⟨rfl,rfl⟩:=e3;cases vx;cases J
   split at j
   ·simp at j
   ·simp at j
   ·rename_i s
    rw[run_equalIn_string w d f.type _ _ s];exact I _ _ l S
   ·simp at j
  ·simp at l
 | [],_::_,_,_,h,_=>by simp[oL]at h
 |_::_,[],_,_,h,_=>by simp[oL]at h
section
variable {a:Act} {r:aE} (hr:qdc fid g w r a.tmps)
include hr
theorem Z8{ks:ae}{v:AV}(h:aM P fid o.op (.eqAgg neg ks x y)=true)(D:aK r (.eqAgg neg ks x y)=some v):Yields P fid g w a o v:=by
 obtain⟨dst,op,ty,pos,after,guard⟩:=o;cases op with
 |binOp X t x' O Y=>
  simp only[aM,aQ,bu]at h;obtain⟨⟨⟨M,h1⟩,W⟩,C⟩:=h;split at C
  ·rename_i fs Q
   simp at C;obtain⟨⟨h4,h5⟩,h6⟩:=C;simp only[aK]at D;split at D
   ·rename_i ca cb Z hy
    obtain⟨b,c,rfl⟩:=ay.1 D;have S:=dr (bG (w:=w) hr h1 Z);have K:=dr (bG (w:=w) hr W hy);generalize V:a.eval x'=q at S;generalize z:a.eval O=q' at K;cases S with
    |agg _ us F hc1 H=>
     cases K with
     |agg _ j J I G=>
      have l:P.fieldsOf t=fs:=by simp[Program.fieldsOf,Q]
      have p:=Hp (P:=P) (w:=w) 9998 ⟨F,hc1,H⟩ ⟨J,I,G⟩ fs.toList ks 0 b h4 (by simpa using c);have s:(Op.equalIn 10000 t (.agg us) (.agg j)).run P w= .ok b w:=by rw[show(10000:Nat)=9999+1 from rfl,run_equalIn_struct w 9999 t us j (by rw[l];exact Q) h5,l];exact p
      have R:=run_eqGuard_agg (P:=P) w X t x' O us j h6;refine⟨.bool (if neg then !b else b),?_,.d _ _ (.bool _)⟩;cases neg<;>simp at M<;>subst M
      ·simp[execOp,V,z,R,run_eql_struct,s]
      ·simp[execOp,V,z,R,run_neq_struct,s]
   ·simp at D
  ·simp at C
 |_=>simp[aM]at h
theorem NT{j:VOp}{v:AV}(h:aM P fid o.op j=true)(d:aK r j=some v):Yields P fid g w a o v:=by
 cases j with
 |move x=>exact qSC hr h d
 |pick c x y=>exact TO hr h d
 |build z ps=>exact Pk hr h d
 |nilCheck x=>exact Nu hr h d
 |bin b x y=>exact Vd hr h d
 |eqAgg n k x y=>exact Z8 hr h d
 |eqB n x y=>exact OA hr h d
 |eqNil n x=>exact RQ hr h d
 |not x=>exact qYv hr h d
 |conv c x=>
  cases c with
  |kind k=>exact qSD hr h d
  |bytes=>exact WB hr h d
  |rune=>exact TX hr h d
 |index x i=>exact QW hr h d
 |indexAddr sz arr x i=>
  cases arr with
  |none=>exact qs4 hr h d
  |some n=>exact qyY hr h d
 |fieldAddr off x=>exact Hi hr h d
 |slice s sz x lo hi=>
  cases s with
  |true=>exact qIq hr h d
  |false=>exact P2 hr h d
 |makeFunc f cs=>exact SX hr h d
 |extract x i=>exact UF hr h d
 |len s x=>exact VW hr h d
 |_=>simp[aK]at d
end
end Go.Proofs.YtpcoohnjllclnaaGreat.VS
