/- Functions of the library that are told by what they compute. -/
import Derived.Test.YtpcoohnjllclnaaEngA
set_option linter.unusedSimpArgs false
set_option linter.unusedVariables false
namespace Go.Proofs.Ytpcoohnjllclnaa.VS
def qFB(p:Id):DV->DV×Ids
 | .sl (.own [] 0) (x::xs)=>(.sl (.own (0::p) x.cells.length) (x::xs),Ids.add (0::p) Ids.none)
 |v=>(v,Ids.none)
def qs6(g:List DV->Option DV)(p:Id)(as:List AV):Option (DV×Ids):=(qat as).bind fun ds=>(g ds).map (qFB p)
def qcM:List DV->Option (List Int)
 | []=>some []
 | .int .i64 n::r=>(qcM r).map (n::·)
 |_=>none
def qbp:List DV->Option (List (List Int))
 | []=>some []
 | .sl _ xs::r=>(qcM xs).bind fun l=>(qbp r).map (l::·)
 |_=>none
def qef:List DV->Option DV
 | [.sl _ rows]=>(qbp rows).bind fun l=>if l≠[]/\(∀x,x∈l->x≠[])/\l.flatten.length*8<=140737488355328 then some (.sl (.own [] 0) (l.flatten.map (.int .i64)))else none
 |_=>none
def qjC:List (Nat×(List DV->Option DV))->Nat->Option (List DV->Option DV)
 | [],_=>none
 |(k,g)::r,n=>match Nat.beq n k with
  |true=>some g
  |false=>qjC r n
theorem qgO:∀{l:List (Nat×(List DV->Option DV))} {k:Nat} {g:List DV->Option DV},qjC l k=some g->(k,g)∈l
 | [],_,_,h=>by simp[qjC]at h
 |(a,u)::r,k,g,h=>by
  simp only[qjC]at h;cases hb:Nat.beq k a with
  |true=>
   rw[hb]at h;simp only[Option.some.injEq]at h;subst h;have:=Nat.eq_of_beq_eq_true hb;subst this;exact List.mem_cons_self
  |false=>
   rw[hb]at h;exact List.mem_cons_of_mem _ (qgO h)
theorem qjE:∀{xs:List DV} {l:List Int},qcM xs=some l->xs=l.map (.int .i64)
 | [],l,h=>by simp[qcM]at h;subst h;rfl
 | .int .i64 n::r,l,h=>by
  simp only[qcM,Option.map_eq_some_iff]at h;obtain⟨l',h1,rfl⟩:=h;rw[qjE h1];rfl
 | .int .i8 _::r,l,h=>by simp[qcM]at h
 | .int .i16 _::r,l,h=>by simp[qcM]at h
 | .int .i32 _::r,l,h=>by simp[qcM]at h
 | .int .u8 _::r,l,h=>by simp[qcM]at h
 | .int .u16 _::r,l,h=>by simp[qcM]at h
 | .int .u32 _::r,l,h=>by simp[qcM]at h
 | .int .u64 _::r,l,h=>by simp[qcM]at h
 | .str _::r,l,h=>by simp[qcM]at h
 | .bool _::r,l,h=>by simp[qcM]at h
 | .agg _::r,l,h=>by simp[qcM]at h
 | .tup _::r,l,h=>by simp[qcM]at h
 | .sl _ _::r,l,h=>by simp[qcM]at h
theorem qho:∀l:List Int,qcM (l.map (.int .i64))=some l
 | []=>rfl
 |s::l=>by simp[qcM,qho l]
theorem qlg:∀{rs:List DV} {l:List (List Int)},qbp rs=some l->rs.length=l.length/\∀(j:Nat) (r:DV),rs[j]?=some r->∃t xs,r= .sl t (xs.map (.int .i64))/\l[j]?=some xs
 | [],l,h=>by simp[qbp]at h;subst h;exact⟨rfl,fun j r h=>by simp at h⟩
 | .sl t xs::rs,l,h=>by
  simp only[qbp]at h;obtain⟨ys,h1,h2⟩:=Option.bind_eq_some_iff.1 h;obtain⟨l',h3,rfl⟩:=Option.map_eq_some_iff.1 h2;obtain⟨h4,h5⟩:=qlg h3;refine⟨by simp[h4],fun j r hj=> ?_⟩;cases j with
  |zero=>simp at hj;subst hj;exact⟨t,ys,by rw[qjE h1],rfl⟩
  |succ j=>simp at hj;exact h5 j r hj
 | .int _ _::r,l,h=>by simp[qbp]at h
 | .str _::r,l,h=>by simp[qbp]at h
 | .bool _::r,l,h=>by simp[qbp]at h
 | .agg _::r,l,h=>by simp[qbp]at h
 | .tup _::r,l,h=>by simp[qbp]at h
end Go.Proofs.Ytpcoohnjllclnaa.VS
