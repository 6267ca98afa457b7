/- Functions of the library that are told by what they compute. -/
import Derived.Test.YtpcoohnjllclnaaGreatEngA
set_option linter.unusedSimpArgs false
set_option linter.unusedVariables false
namespace Go.Proofs.YtpcoohnjllclnaaGreat.VS
def kY(p:Id):DV->DV×Ids
 | .sl (.own [] 0) (x::xs)=>(.sl (.own (0::p) x.cells.length) (x::xs),Ids.add (0::p) Ids.none)
 | .sl (.own [] 0) []=>(.sl .nil [],Ids.none)
 |v=>(v,Ids.none)
def cB(g:aw->cN)(p:Id)(as:aH):uh:=(bd as).bind fun ds=>(g ds).map (kY p)
def dY:aw->Option ax
 | []=>some []
 | .int .i64 n::r=>(dY r).map (n::·)
 |_=>none
def j6(l:ax)(n:Int):Nat:=l.findIdx fun x=>decide (x>n)
def cv(l:ax)(n:Int):ax:=if l.contains n then l else l.take (j6 l n)++n::l.drop (j6 l n)
def lP:aw->cN
 | [.sl _ xs,.int .i64 n]=>(dY xs).bind fun l=>if(l.length+1)*8<=140737488355328 then some (.sl (.own [] 0) ((cv l n).map (.int .i64)))else none
 |_=>none
def d7:aw->Option (List ax)
 | []=>some []
 | .sl _ xs::r=>(dY xs).bind fun l=>(d7 r).map (l::·)
 |_=>none
def lj:aw->cN
 | [.sl _ rows]=>(d7 rows).bind fun l=>if 0<l.length/\l.flatten.length*8<=140737488355328 then some (.sl (.own [] 0) (l.flatten.map (.int .i64)))else none
 |_=>none
theorem Mt(l:ax)(n:Int):cv l n≠[]:=by
 unfold cv;split
 ·rename_i h;intro a;rw[a]at h;simp at h
 ·simp
def kJ:List (Nat×(aw->cN))->Nat->Option (aw->cN)
 | [],_=>none
 |(k,g)::r,n=>match Nat.beq n k with
  |true=>some g
  |false=>kJ r n
theorem Bf:∀{l:List (Nat×(aw->cN))} {k:Nat} {g:aw->cN},kJ l k=some g->(k,g)∈l
 | [],_,_,h=>by simp[kJ]at h
 |(a,u)::r,k,g,h=>by
  simp only[kJ]at h;cases hb:Nat.beq k a with
  |true=>rw[hb]at h;simp only[ca]at h;subst h;have:=Nat.eq_of_beq_eq_true hb;subst this;exact jL
  |false=>rw[hb]at h;exact jg _ (Bf h)
theorem xV:∀{xs:aw} {l:ax},dY xs=some l->xs=l.map (.int .i64)
 | [],l,h=>by simp[dY]at h;subst h;rfl
 | .int .i64 n::r,l,h=>by simp only[dY,aN]at h;obtain⟨l',a,rfl⟩:=h;rw[xV a];rfl
 | .int .i8 _::r,l,h=>by simp[dY]at h
 | .int .i16 _::r,l,h=>by simp[dY]at h
 | .int .i32 _::r,l,h=>by simp[dY]at h
 | .int .u8 _::r,l,h=>by simp[dY]at h
 | .int .u16 _::r,l,h=>by simp[dY]at h
 | .int .u32 _::r,l,h=>by simp[dY]at h
 | .int .u64 _::r,l,h=>by simp[dY]at h
 | .str _::r,l,h=>by simp[dY]at h
 | .bool _::r,l,h=>by simp[dY]at h
 | .agg _::r,l,h=>by simp[dY]at h
 | .tup _::r,l,h=>by simp[dY]at h
 | .sl _ _::r,l,h=>by simp[dY]at h
theorem wN:∀l:ax,dY (l.map (.int .i64))=some l
 | []=>rfl
 |s::l=>by simp[dY,wN l]
mutual
def DV.sh:DV->DV
 | .sl t xs=> .sl (if t= .nil then .nil else .sub) (DV.shs xs)
 | .agg cs=> .agg (DV.shs cs)
 | .tup cs=> .tup (DV.shs cs)
 | .int k n=> .int k n
 | .bool b=> .bool b
 | .str s=> .str s
def DV.shs:aw->aw
 | []=>[]
 |x::xs=>x.sh::DV.shs xs
end
theorem p8:∀xs:aw,DV.shs xs=xs.map DV.sh
 | []=>by simp[DV.shs]
 |x::xs=>by simp[DV.shs,p8 xs]
def k_:DV->Bool
 | .agg [.int .i64 _,.int .i64 _,.sl _ _]=>true
 |_=>false
def rowsOf:aw->Option (List aw)
 | []=>some []
 | .sl _ xs::r=>(rowsOf r).map (xs::·)
 |_=>none
def lM:aw->cN
 | [.sl _ xs,.int .i64 i]=>if xs.all k_=true/\0<=i/\i<xs.length/\xs.length*40<=140737488355328 then some (.sl .sub ((xs.take i.toNat++xs.drop (i.toNat+1)).map DV.sh))else none
 |_=>none
def ki(sz a:Nat):aw->cN
 | [.sl _ rows]=>(rowsOf rows).bind fun l=>if l.flatten.all (fun x=>decide (x.cells.length=sz))=true/\0<l.length/\l.flatten.length*a<=140737488355328 then some (if l.flatten.length=0 then .sl (.own [] 0) []else .sl .sub (l.flatten.map DV.sh))else none
 |_=>none
def lU:aw->cN
 | [.sl _ [x],.int .i64 k]=>if k_ x=true/\0<=k/\k.toNat*40<=140737488355328 then some (.sl .sub ((List.replicate k.toNat x).map DV.sh))else none
 |_=>none
end Go.Proofs.YtpcoohnjllclnaaGreat.VS
