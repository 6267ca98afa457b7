/- Functions of the library that are told by what they compute. -/
import Derived.Test.YtfiakfiocdfpbaaEngA
set_option linter.unusedSimpArgs false
set_option linter.unusedVariables false
namespace Go.Proofs.Ytfiakfiocdfpbaa.VS
def qHq(p:Id):DV->DV×Ids
 | .sl (.own [] 0) (x::xs)=>(.sl (.own (0::p) x.cells.length) (x::xs),Ids.add (0::p) Ids.none)
 |v=>(v,Ids.none)
def qAu(g:List DV->Option DV)(p:Id)(as:List AV):Option (DV×Ids):=(qav as).bind fun ds=>(g ds).map (qHq p)
def qiL:List (Nat×(List DV->Option DV))->Nat->Option (List DV->Option DV)
 | [],_=>none
 |(k,g)::r,n=>match Nat.beq n k with
  |true=>some g
  |false=>qiL r n
theorem qfX:∀{l:List (Nat×(List DV->Option DV))} {k:Nat} {g:List DV->Option DV},qiL l k=some g->(k,g)∈l
 | [],_,_,h=>by simp[qiL]at h
 |(a,u)::r,k,g,h=>by
  simp only[qiL]at h;cases hb:Nat.beq k a with
  |true=>
   rw[hb]at h;simp only[Option.some.injEq]at h;subst h;have:=Nat.eq_of_beq_eq_true hb;subst this;exact List.mem_cons_self
  |false=>
   rw[hb]at h;exact List.mem_cons_of_mem _ (qfX h)
end Go.Proofs.Ytfiakfiocdfpbaa.VS
