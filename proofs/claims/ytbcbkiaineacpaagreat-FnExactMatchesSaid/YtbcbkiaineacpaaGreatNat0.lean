/- Functions of the library that are told by what they compute. -/
import Derived.Test.YtbcbkiaineacpaaGreatEngA
set_option linter.unusedSimpArgs false
set_option linter.unusedVariables false
namespace Go.Proofs.YtbcbkiaineacpaaGreat.VS
def qVx(p:Id):DV->DV×Ids
 | .sl (.own [] 0) (x::xs)=>(.sl (.own (0::p) x.cells.length) (x::xs),Ids.add (0::p) Ids.none)
 |v=>(v,Ids.none)
def qme(g:List DV->Option DV)(p:Id)(as:List AV):Option (DV×Ids):=(qaG as).bind fun ds=>(g ds).map (qVx p)
def qlu:List (Nat×(List DV->Option DV))->Nat->Option (List DV->Option DV)
 | [],_=>none
 |(k,g)::r,n=>match Nat.beq n k with
  |true=>some g
  |false=>qlu r n
theorem qhI:∀{l:List (Nat×(List DV->Option DV))} {k:Nat} {g:List DV->Option DV},qlu l k=some g->(k,g)∈l
 | [],_,_,h=>by simp[qlu]at h
 |(a,u)::r,k,g,h=>by
  simp only[qlu]at h;cases hb:Nat.beq k a with
  |true=>
   rw[hb]at h;simp only[Option.some.injEq]at h;subst h;have:=Nat.eq_of_beq_eq_true hb;subst this;exact List.mem_cons_self
  |false=>
   rw[hb]at h;exact List.mem_cons_of_mem _ (qhI h)
mutual
def DV.sh:DV->DV
 | .sl t xs=> .sl (if t= .nil then .nil else .sub) (DV.shs xs)
 | .agg cs=> .agg (DV.shs cs)
 | .tup cs=> .tup (DV.shs cs)
 | .int k n=> .int k n
 | .bool b=> .bool b
 | .str s=> .str s
def DV.shs:List DV->List DV
 | []=>[]
 |x::xs=>x.sh::DV.shs xs
end
theorem qe2:∀xs:List DV,DV.shs xs=xs.map DV.sh
 | []=>by simp[DV.shs]
 |x::xs=>by simp[DV.shs,qe2 xs]
def qet:DV->Bool
 | .agg [.int .i64 _,.int .i64 _,.sl _ _]=>true
 |_=>false
def qPF:DV->Option Int
 | .agg [.int .i64 v,.int .i64 _,.int .i64 _,.sl _ _]=>some v
 |_=>none
def qjE:List DV->Option (List Int)
 | []=>some []
 |x::r=>(qPF x).bind fun v=>(qjE r).map (v::·)
def rowsOf:List DV->Option (List (List DV))
 | []=>some []
 | .sl _ xs::r=>(rowsOf r).map (xs::·)
 |_=>none
def qdg:List DV->Option DV
 | [.sl _ xs,.int .i64 i]=>if xs.all qet=true/\0<=i/\i<xs.length/\xs.length*40<=140737488355328 then some (.sl .sub ((xs.take i.toNat++xs.drop (i.toNat+1)).map DV.sh))else none
 |_=>none
def qzZ(vs:List Int)(v:Int):Nat:=vs.findIdx fun x=>decide (x>v)
def qGj:List DV->Option DV
 | [.sl _ xs,.int .i64 v,.agg [.int .i64 a,.int .i64 b,.sl t ks]]=>(qjE xs).bind fun vs=>if(xs.length+1)*48<=140737488355328 then
  some (.sl .sub ((xs.take (qzZ vs v)++ .agg [.int .i64 v,.int .i64 a,.int .i64 b,.sl t ks]::xs.drop (qzZ vs v)).map DV.sh))else none
 |_=>none
def qGl(sz by_:Nat):List DV->Option DV
 | [.sl _ rows]=>(rowsOf rows).bind fun l=>if l.flatten.all (fun x=>decide (x.cells.length=sz))=true/\0<l.flatten.length/\l.flatten.length*by_<=140737488355328 then some (.sl .sub (l.flatten.map DV.sh))else none
 |_=>none
end Go.Proofs.YtbcbkiaineacpaaGreat.VS
