/- Functions of the library that are told by what they compute. -/
import Derived.Test.YtpcoohnjllclnaaGreatEngA
set_option linter.unusedSimpArgs false
set_option linter.unusedVariables false
namespace Go.Proofs.YtpcoohnjllclnaaGreat.VS
def kQ(p:Id):DV->DV×Ids
 | .sl (.own [] 0) (x::xs)=>(.sl (.own (0::p) x.cells.length) (x::xs),Ids.add (0::p) Ids.none)
 | .sl (.own [] 0) []=>(.sl .nil [],Ids.none)
 |v=>(v,Ids.none)
def cD(g:aw->cP)(p:Id)(as:aG):r9:=(bd as).bind fun ds=>(g ds).map (kQ p)
def d9:aw->Option ax
 | []=>some []
 | .int .i64 n::r=>(d9 r).map (n::·)
 |_=>none
def lz(l:ax)(n:Int):Nat:=l.findIdx fun x=>decide (x>n)
def cv(l:ax)(n:Int):ax:=if l.contains n then l else l.take (lz l n)++n::l.drop (lz l n)
def lG:aw->cP
 | [.sl _ xs,.int .i64 n]=>(d9 xs).bind fun l=>if(l.length+1)*8<=140737488355328 then some (.sl (.own [] 0) ((cv l n).map (.int .i64)))else none
 |_=>none
def eb:aw->Option (List ax)
 | []=>some []
 | .sl _ xs::r=>(d9 xs).bind fun l=>(eb r).map (l::·)
 |_=>none
def kE:aw->cP
 | [.sl _ rows]=>(eb rows).bind fun l=>if 0<l.length/\l.flatten.length*8<=140737488355328 then some (.sl (.own [] 0) (l.flatten.map (.int .i64)))else none
 |_=>none
theorem JJ(l:ax)(n:Int):cv l n≠[]:=by
 unfold cv;split
 ·rename_i h;intro a;rw[a]at h;simp at h
 ·simp
def kj:List (Nat×(aw->cP))->Nat->Option (aw->cP)
 | [],_=>none
 |(k,g)::r,n=>match Nat.beq n k with
  |true=>some g
  |false=>kj r n
theorem BY:∀{l:List (Nat×(aw->cP))} {k:Nat} {g:aw->cP},kj l k=some g->(k,g)∈l
 | [],_,_,h=>by simp[kj]at h
 |(a,u)::r,k,g,h=>by
  simp only[kj]at h;cases hb:Nat.beq k a with
  |true=>rw[hb]at h;simp only[ca]at h;subst h;have:=Nat.eq_of_beq_eq_true hb;subst this;exact jH
  |false=>rw[hb]at h;exact jn _ (BY h)
theorem yA:∀{xs:aw} {l:ax},d9 xs=some l->xs=l.map (.int .i64)
 | [],l,h=>by simp[d9]at h;subst h;rfl
 | .int .i64 n::r,l,h=>by simp only[d9,aN]at h;obtain⟨l',a,rfl⟩:=h;rw[yA a];rfl
 | .int .i8 _::r,l,h=>by simp[d9]at h
 | .int .i16 _::r,l,h=>by simp[d9]at h
 | .int .i32 _::r,l,h=>by simp[d9]at h
 | .int .u8 _::r,l,h=>by simp[d9]at h
 | .int .u16 _::r,l,h=>by simp[d9]at h
 | .int .u32 _::r,l,h=>by simp[d9]at h
 | .int .u64 _::r,l,h=>by simp[d9]at h
 | .str _::r,l,h=>by simp[d9]at h
 | .bool _::r,l,h=>by simp[d9]at h
 | .agg _::r,l,h=>by simp[d9]at h
 | .tup _::r,l,h=>by simp[d9]at h
 | .sl _ _::r,l,h=>by simp[d9]at h
theorem xw:∀l:ax,d9 (l.map (.int .i64))=some l
 | []=>rfl
 |s::l=>by simp[d9,xw l]
mutual
def DV.sh:DV->DV
 | .sl t xs=> .sl (if t= .nil then .nil else .sub) (DV.shs xs)
 | .agg cs=> .agg (DV.shs cs)
 | .tup cs=> .tup (DV.shs cs)
 | .int k n=> .int k n
 | .bool b=> .bool b
 | .str s=> .str s
def DV.shs:aw->aw
 | []=>[]
 |x::xs=>x.sh::DV.shs xs
end
theorem p6:∀xs:aw,DV.shs xs=xs.map DV.sh
 | []=>by simp[DV.shs]
 |x::xs=>by simp[DV.shs,p6 xs]
def ki:DV->Bool
 | .agg [.int .i64 _,.int .i64 _,.sl _ _]=>true
 |_=>false
def rowsOf:aw->Option (List aw)
 | []=>some []
 | .sl _ xs::r=>(rowsOf r).map (xs::·)
 |_=>none
def lJ:aw->cP
 | [.sl _ xs,.int .i64 i]=>if xs.all ki=true/\0<=i/\i<xs.length/\xs.length*40<=140737488355328 then some (.sl .sub ((xs.take i.toNat++xs.drop (i.toNat+1)).map DV.sh))else none
 |_=>none
def kx(sz a:Nat):aw->cP
 | [.sl _ rows]=>(rowsOf rows).bind fun l=>if l.flatten.all (fun x=>decide (x.cells.length=sz))=true/\0<l.length/\l.flatten.length*a<=140737488355328 then some (if l.flatten.length=0 then .sl (.own [] 0) []else .sl .sub (l.flatten.map DV.sh))else none
 |_=>none
def lN:aw->cP
 | [.sl _ [x],.int .i64 k]=>if ki x=true/\0<=k/\k.toNat*40<=140737488355328 then some (.sl .sub ((List.replicate k.toNat x).map DV.sh))else none
 |_=>none
end Go.Proofs.YtpcoohnjllclnaaGreat.VS
