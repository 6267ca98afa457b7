/- Functions of the library that are told by what they compute. -/
import Derived.Test.YtfiakfiocdfpbaaEngA
set_option linter.unusedSimpArgs false
set_option linter.unusedVariables false
namespace Go.Proofs.Ytfiakfiocdfpbaa.VS
def qIC(p:Id):DV->DV×Ids
 | .sl (.own [] 0) (x::xs)=>(.sl (.own (0::p) x.cells.length) (x::xs),Ids.add (0::p) Ids.none)
 |v=>(v,Ids.none)
def qsD(g:List DV->Option DV)(p:Id)(as:List AV):Option (DV×Ids):=(qaB as).bind fun ds=>(g ds).map (qIC p)
def qcx:List DV->Option (List Int)
 | []=>some []
 | .int .i64 n::r=>(qcx r).map (n::·)
 |_=>none
def qlu(l:List Int)(n:Int):Nat:=l.findIdx fun x=>decide (x>n)
def qaN(l:List Int)(n:Int):List Int:=if l.contains n then l else l.take (qlu l n)++n::l.drop (qlu l n)
def qdy:List DV->Option DV
 | [.sl _ xs,.int .i64 n]=>(qcx xs).bind fun l=>if(l.length+1)*8<=140737488355328 then some (.sl (.own [] 0) ((qaN l n).map (.int .i64)))else none
 |_=>none
theorem qkj(l:List Int)(n:Int):qaN l n≠[]:=by
 unfold qaN;split
 ·rename_i h;intro he;rw[he]at h;simp at h
 ·simp
def qjg:List (Nat×(List DV->Option DV))->Nat->Option (List DV->Option DV)
 | [],_=>none
 |(k,g)::r,n=>match Nat.beq n k with
  |true=>some g
  |false=>qjg r n
theorem qgf:∀{l:List (Nat×(List DV->Option DV))} {k:Nat} {g:List DV->Option DV},qjg l k=some g->(k,g)∈l
 | [],_,_,h=>by simp[qjg]at h
 |(a,u)::r,k,g,h=>by
  simp only[qjg]at h;cases hb:Nat.beq k a with
  |true=>
   rw[hb]at h;simp only[Option.some.injEq]at h;subst h;have:=Nat.eq_of_beq_eq_true hb;subst this;exact List.mem_cons_self
  |false=>
   rw[hb]at h;exact List.mem_cons_of_mem _ (qgf h)
theorem qjl:∀{xs:List DV} {l:List Int},qcx xs=some l->xs=l.map (.int .i64)
 | [],l,h=>by simp[qcx]at h;subst h;rfl
 | .int .i64 n::r,l,h=>by
  simp only[qcx,Option.map_eq_some_iff]at h;obtain⟨l',h1,rfl⟩:=h;rw[qjl h1];rfl
 | .int .i8 _::r,l,h=>by simp[qcx]at h
 | .int .i16 _::r,l,h=>by simp[qcx]at h
 | .int .i32 _::r,l,h=>by simp[qcx]at h
 | .int .u8 _::r,l,h=>by simp[qcx]at h
 | .int .u16 _::r,l,h=>by simp[qcx]at h
 | .int .u32 _::r,l,h=>by simp[qcx]at h
 | .int .u64 _::r,l,h=>by simp[qcx]at h
 | .str _::r,l,h=>by simp[qcx]at h
 | .bool _::r,l,h=>by simp[qcx]at h
 | .agg _::r,l,h=>by simp[qcx]at h
 | .tup _::r,l,h=>by simp[qcx]at h
 | .sl _ _::r,l,h=>by simp[qcx]at h
theorem qg6:∀l:List Int,qcx (l.map (.int .i64))=some l
 | []=>rfl
 |s::l=>by simp[qcx,qg6 l]
end Go.Proofs.Ytfiakfiocdfpbaa.VS
