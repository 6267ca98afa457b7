/- Functions of the library that are told by what they compute. -/
import Derived.Test.YtbcbkiaineacpaaGreatEngA
set_option linter.unusedSimpArgs false
set_option linter.unusedVariables false
namespace Go.Proofs.YtbcbkiaineacpaaGreat.VS
def qUI(p:Id):DV->DV×Ids
 | .sl (.own [] 0) (x::xs)=>(.sl (.own (0::p) x.cells.length) (x::xs),Ids.add (0::p) Ids.none)
 |v=>(v,Ids.none)
def ql4(g:List DV->Option DV)(p:Id)(as:List AV):Option (DV×Ids):=(qaF as).bind fun ds=>(g ds).map (qUI p)
def qlk:List (Nat×(List DV->Option DV))->Nat->Option (List DV->Option DV)
 | [],_=>none
 |(k,g)::r,n=>match Nat.beq n k with
  |true=>some g
  |false=>qlk r n
theorem qhy:∀{l:List (Nat×(List DV->Option DV))} {k:Nat} {g:List DV->Option DV},qlk l k=some g->(k,g)∈l
 | [],_,_,h=>by simp[qlk]at h
 |(a,u)::r,k,g,h=>by
  simp only[qlk]at h;cases hb:Nat.beq k a with
  |true=>
   rw[hb]at h;simp only[Option.some.injEq]at h;subst h;have:=Nat.eq_of_beq_eq_true hb;subst this;exact List.mem_cons_self
  |false=>
   rw[hb]at h;exact List.mem_cons_of_mem _ (qhy h)
mutual
def DV.sh:DV->DV
 | .sl t xs=> .sl (if t= .nil then .nil else .sub) (DV.shs xs)
 | .agg cs=> .agg (DV.shs cs)
 | .tup cs=> .tup (DV.shs cs)
 | .int k n=> .int k n
 | .bool b=> .bool b
 | .str s=> .str s
def DV.shs:List DV->List DV
 | []=>[]
 |x::xs=>x.sh::DV.shs xs
end
theorem qeU:∀xs:List DV,DV.shs xs=xs.map DV.sh
 | []=>by simp[DV.shs]
 |x::xs=>by simp[DV.shs,qeU xs]
def qeq:DV->Bool
 | .agg [.int .i64 _,.int .i64 _,.sl _ _]=>true
 |_=>false
def qOY:DV->Option Int
 | .agg [.int .i64 v,.int .i64 _,.int .i64 _,.sl _ _]=>some v
 |_=>none
def qjw:List DV->Option (List Int)
 | []=>some []
 |x::r=>(qOY x).bind fun v=>(qjw r).map (v::·)
def rowsOf:List DV->Option (List (List DV))
 | []=>some []
 | .sl _ xs::r=>(rowsOf r).map (xs::·)
 |_=>none
def qdd:List DV->Option DV
 | [.sl _ xs,.int .i64 i]=>if xs.all qeq=true/\0<=i/\i<xs.length/\xs.length*40<=140737488355328 then some (.sl .sub ((xs.take i.toNat++xs.drop (i.toNat+1)).map DV.sh))else none
 |_=>none
def qzD(vs:List Int)(v:Int):Nat:=vs.findIdx fun x=>decide (x>v)
def qFF:List DV->Option DV
 | [.sl _ xs,.int .i64 v,.agg [.int .i64 a,.int .i64 b,.sl t ks]]=>(qjw xs).bind fun vs=>if(xs.length+1)*48<=140737488355328 then
  some (.sl .sub ((xs.take (qzD vs v)++ .agg [.int .i64 v,.int .i64 a,.int .i64 b,.sl t ks]::xs.drop (qzD vs v)).map DV.sh))else none
 |_=>none
def qFH(sz by_:Nat):List DV->Option DV
 | [.sl _ rows]=>(rowsOf rows).bind fun l=>if l.flatten.all (fun x=>decide (x.cells.length=sz))=true/\0<l.flatten.length/\l.flatten.length*by_<=140737488355328 then some (.sl .sub (l.flatten.map DV.sh))else none
 |_=>none
end Go.Proofs.YtbcbkiaineacpaaGreat.VS
