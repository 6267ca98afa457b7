/- Functions of the library that are told by what they compute. -/
import Derived.Test.YtpcoohnjllclnaaGreatEngA
set_option linter.unusedSimpArgs false
set_option linter.unusedVariables false
namespace Go.Proofs.YtpcoohnjllclnaaGreat.VS
def pg(p:Id):DV->DV×Ids
 | .sl (.own [] 0) (x::xs)=>(.sl (.own (0::p) x.cells.length) (x::xs),Ids.add (0::p) Ids.none)
 |v=>(v,Ids.none)
def de(g:List DV->Option DV)(p:Id)(as:List AV):Option (DV×Ids):=(aM as).bind fun ds=>(g ds).map (pg p)
def ez:List DV->Option (List Int)
 | []=>some []
 | .int .i64 n::r=>(ez r).map (n::·)
 |_=>none
def fL(l:List Int)(n:Int):Nat:=l.findIdx fun x=>decide (x>n)
def cL(l:List Int)(n:Int):List Int:=if l.contains n then l else l.take (fL l n)++n::l.drop (fL l n)
def jz:List DV->Option DV
 | [.sl _ xs,.int .i64 n]=>(ez xs).bind fun l=>if(l.length+1)*8<=140737488355328 then some (.sl (.own [] 0) ((cL l n).map (.int .i64)))else none
 |_=>none
theorem EQ(l:List Int)(n:Int):cL l n≠[]:=by
 unfold cL;split
 ·rename_i h;intro he;rw[he]at h;simp at h
 ·simp
def iT:List (Nat×(List DV->Option DV))->Nat->Option (List DV->Option DV)
 | [],_=>none
 |(k,g)::r,n=>match Nat.beq n k with
  |true=>some g
  |false=>iT r n
theorem xL:∀{l:List (Nat×(List DV->Option DV))} {k:Nat} {g:List DV->Option DV},iT l k=some g->(k,g)∈l
 | [],_,_,h=>by simp[iT]at h
 |(a,u)::r,k,g,h=>by
  simp only[iT]at h;cases hb:Nat.beq k a with
  |true=>
   rw[hb]at h;simp only[aB]at h;subst h;have:=Nat.eq_of_beq_eq_true hb;subst this;exact ed
  |false=>
   rw[hb]at h;exact dH _ (xL h)
theorem yZ:∀{xs:List DV} {l:List Int},ez xs=some l->xs=l.map (.int .i64)
 | [],l,h=>by simp[ez]at h;subst h;rfl
 | .int .i64 n::r,l,h=>by
  simp only[ez,au]at h;obtain⟨a,h1,rfl⟩:=h;rw[yZ h1];rfl
 | .int .i8 _::r,l,h=>by simp[ez]at h
 | .int .i16 _::r,l,h=>by simp[ez]at h
 | .int .i32 _::r,l,h=>by simp[ez]at h
 | .int .u8 _::r,l,h=>by simp[ez]at h
 | .int .u16 _::r,l,h=>by simp[ez]at h
 | .int .u32 _::r,l,h=>by simp[ez]at h
 | .int .u64 _::r,l,h=>by simp[ez]at h
 | .str _::r,l,h=>by simp[ez]at h
 | .bool _::r,l,h=>by simp[ez]at h
 | .agg _::r,l,h=>by simp[ez]at h
 | .tup _::r,l,h=>by simp[ez]at h
 | .sl _ _::r,l,h=>by simp[ez]at h
theorem Cu:∀l:List Int,ez (l.map (.int .i64))=some l
 | []=>rfl
 |s::l=>by simp[ez,Cu l]
mutual
def DV.sh:DV->DV
 | .sl t xs=> .sl (if t= .nil then .nil else .sub) (DV.shs xs)
 | .agg cs=> .agg (DV.shs cs)
 | .tup cs=> .tup (DV.shs cs)
 | .int k n=> .int k n
 | .bool b=> .bool b
 | .str s=> .str s
def DV.shs:List DV->List DV
 | []=>[]
 |x::xs=>x.sh::DV.shs xs
end
theorem jZ:∀xs:List DV,DV.shs xs=xs.map DV.sh
 | []=>by simp[DV.shs]
 |x::xs=>by simp[DV.shs,jZ xs]
def jm:DV->Bool
 | .agg [.int .i64 _,.int .i64 _,.sl _ _]=>true
 |_=>false
def mG:DV->Option Int
 | .agg [.int .i64 v,.int .i64 _,.int .i64 _,.sl _ _]=>some v
 |_=>none
def ic:List DV->Option (List Int)
 | []=>some []
 |x::r=>(mG x).bind fun v=>(ic r).map (v::·)
def rowsOf:List DV->Option (List (List DV))
 | []=>some []
 | .sl _ xs::r=>(rowsOf r).map (xs::·)
 |_=>none
def jS:List DV->Option DV
 | [.sl _ xs,.int .i64 i]=>if xs.all jm=true/\0<=i/\i<xs.length/\xs.length*40<=140737488355328 then some (.sl .sub ((xs.take i.toNat++xs.drop (i.toNat+1)).map DV.sh))else none
 |_=>none
def hZ(vs:List Int)(v:Int):Nat:=vs.findIdx fun x=>decide (x>v)
def jD:List DV->Option DV
 | [.sl _ xs,.int .i64 v,.agg [.int .i64 a,.int .i64 b,.sl t ks]]=>(ic xs).bind fun vs=>if(xs.length+1)*48<=140737488355328 then
  some (.sl .sub ((xs.take (hZ vs v)++ .agg [.int .i64 v,.int .i64 a,.int .i64 b,.sl t ks]::xs.drop (hZ vs v)).map DV.sh))else none
 |_=>none
def jr(sz a:Nat):List DV->Option DV
 | [.sl _ rows]=>(rowsOf rows).bind fun l=>if l.flatten.all (fun x=>decide (x.cells.length=sz))=true/\0<l.flatten.length/\l.flatten.length*a<=140737488355328 then some (.sl .sub (l.flatten.map DV.sh))else none
 |_=>none
end Go.Proofs.YtpcoohnjllclnaaGreat.VS
