/- Functions of the library that are told by what they compute. -/
import Derived.Test.YtfiakfiocdfpbaaEngA
set_option linter.unusedSimpArgs false
set_option linter.unusedVariables false
namespace Go.Proofs.Ytfiakfiocdfpbaa.VS
def qQk(p:Id):DV->DV×Ids
 | .sl (.own [] 0) (x::xs)=>(.sl (.own (0::p) x.cells.length) (x::xs),Ids.add (0::p) Ids.none)
 |v=>(v,Ids.none)
def qxz(g:List DV->Option DV)(p:Id)(as:List AV):Option (DV×Ids):=(qaC as).bind fun ds=>(g ds).map (qQk p)
def qcY:List DV->Option (List Int)
 | []=>some []
 | .int .i64 n::r=>(qcY r).map (n::·)
 |_=>none
def qlm(l:List Int)(n:Int):Nat:=l.findIdx fun x=>decide (x>n)
def qaQ(l:List Int)(n:Int):List Int:=if l.contains n then l else l.take (qlm l n)++n::l.drop (qlm l n)
def qed:List DV->Option DV
 | [.sl _ xs,.int .i64 n]=>(qcY xs).bind fun l=>if(l.length+1)*8<=140737488355328 then some (.sl (.own [] 0) ((qaQ l n).map (.int .i64)))else none
 |_=>none
theorem qmS(l:List Int)(n:Int):qaQ l n≠[]:=by
 unfold qaQ;split
 ·rename_i h;intro he;rw[he]at h;simp at h
 ·simp
def qlr:List (Nat×(List DV->Option DV))->Nat->Option (List DV->Option DV)
 | [],_=>none
 |(k,g)::r,n=>match Nat.beq n k with
  |true=>some g
  |false=>qlr r n
theorem qha:∀{l:List (Nat×(List DV->Option DV))} {k:Nat} {g:List DV->Option DV},qlr l k=some g->(k,g)∈l
 | [],_,_,h=>by simp[qlr]at h
 |(a,u)::r,k,g,h=>by
  simp only[qlr]at h;cases hb:Nat.beq k a with
  |true=>
   rw[hb]at h;simp only[Option.some.injEq]at h;subst h;have:=Nat.eq_of_beq_eq_true hb;subst this;exact List.mem_cons_self
  |false=>
   rw[hb]at h;exact List.mem_cons_of_mem _ (qha h)
theorem qlx:∀{xs:List DV} {l:List Int},qcY xs=some l->xs=l.map (.int .i64)
 | [],l,h=>by simp[qcY]at h;subst h;rfl
 | .int .i64 n::r,l,h=>by
  simp only[qcY,Option.map_eq_some_iff]at h;obtain⟨l',h1,rfl⟩:=h;rw[qlx h1];rfl
 | .int .i8 _::r,l,h=>by simp[qcY]at h
 | .int .i16 _::r,l,h=>by simp[qcY]at h
 | .int .i32 _::r,l,h=>by simp[qcY]at h
 | .int .u8 _::r,l,h=>by simp[qcY]at h
 | .int .u16 _::r,l,h=>by simp[qcY]at h
 | .int .u32 _::r,l,h=>by simp[qcY]at h
 | .int .u64 _::r,l,h=>by simp[qcY]at h
 | .str _::r,l,h=>by simp[qcY]at h
 | .bool _::r,l,h=>by simp[qcY]at h
 | .agg _::r,l,h=>by simp[qcY]at h
 | .tup _::r,l,h=>by simp[qcY]at h
 | .sl _ _::r,l,h=>by simp[qcY]at h
theorem qib:∀l:List Int,qcY (l.map (.int .i64))=some l
 | []=>rfl
 |s::l=>by simp[qcY,qib l]
end Go.Proofs.Ytfiakfiocdfpbaa.VS
