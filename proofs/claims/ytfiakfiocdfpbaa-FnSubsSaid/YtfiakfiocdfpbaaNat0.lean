/- Functions of the library that are told by what they compute. -/
import Derived.Test.YtfiakfiocdfpbaaEngA
set_option linter.unusedSimpArgs false
set_option linter.unusedVariables false
namespace Go.Proofs.Ytfiakfiocdfpbaa.VS
def strsOf:List DV->Option (List ByteArray)
 | []=>some []
 | .str s::r=>(strsOf r).map (s::·)
 |_=>none
def joinL(xs:List ByteArray)(sep:ByteArray):List UInt8:=sep.data.toList.intercalate (xs.map (·.data.toList))
def qwE(xs:List ByteArray)(sep:ByteArray):ByteArray:=⟨(joinL xs sep).toArray⟩
def qmn:List DV->Option DV
 | [.sl _ xs,.str sep]=>(strsOf xs).bind fun l=>if l.length<=140737488355328/\(joinL l sep).length<=140737488355328 then some (.str (qwE l sep))else none
 |_=>none
def qQA(p:Id):DV->DV×Ids
 | .sl (.own [] 0) (x::xs)=>(.sl (.own (0::p) x.cells.length) (x::xs),Ids.add (0::p) Ids.none)
 |v=>(v,Ids.none)
def qxD(g:List DV->Option DV)(p:Id)(as:List AV):Option (DV×Ids):=(qaC as).bind fun ds=>(g ds).map (qQA p)
def qlu:List (Nat×(List DV->Option DV))->Nat->Option (List DV->Option DV)
 | [],_=>none
 |(k,g)::r,n=>match Nat.beq n k with
  |true=>some g
  |false=>qlu r n
theorem qhp:∀{l:List (Nat×(List DV->Option DV))} {k:Nat} {g:List DV->Option DV},qlu l k=some g->(k,g)∈l
 | [],_,_,h=>by simp[qlu]at h
 |(a,u)::r,k,g,h=>by
  simp only[qlu]at h;cases hb:Nat.beq k a with
  |true=>
   rw[hb]at h;simp only[Option.some.injEq]at h;subst h;have:=Nat.eq_of_beq_eq_true hb;subst this;exact List.mem_cons_self
  |false=>
   rw[hb]at h;exact List.mem_cons_of_mem _ (qhp h)
theorem qkl:∀{xs:List DV} {l:List ByteArray},strsOf xs=some l->xs=l.map .str
 | [],l,h=>by simp[strsOf]at h;subst h;rfl
 | .str s::r,l,h=>by
  simp only[strsOf,Option.map_eq_some_iff]at h;obtain⟨l',h1,rfl⟩:=h;rw[qkl h1];rfl
 | .int _ _::r,l,h=>by simp[strsOf]at h
 | .bool _::r,l,h=>by simp[strsOf]at h
 | .agg _::r,l,h=>by simp[strsOf]at h
 | .tup _::r,l,h=>by simp[strsOf]at h
 | .sl _ _::r,l,h=>by simp[strsOf]at h
end Go.Proofs.Ytfiakfiocdfpbaa.VS
