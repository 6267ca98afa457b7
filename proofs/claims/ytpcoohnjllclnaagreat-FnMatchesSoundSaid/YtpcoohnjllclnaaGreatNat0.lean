/- Functions of the library that are told by what they compute. -/
import Derived.Test.YtpcoohnjllclnaaGreatEngA
set_option linter.unusedSimpArgs false
set_option linter.unusedVariables false
namespace Go.Proofs.YtpcoohnjllclnaaGreat.VS
def qL(p:Id):DV->DV×Ids
 | .sl (.own [] 0) (x::xs)=>(.sl (.own (0::p) x.cells.length) (x::xs),Ids.add (0::p) Ids.none)
 |v=>(v,Ids.none)
def dN(g:al->cZ)(p:Id)(as:aA):og:=(aV as).bind fun ds=>(g ds).map (qL p)
def e_:al->Option aX
 | []=>some []
 | .int .i64 n::r=>(e_ r).map (n::·)
 |_=>none
def gO(l:aX)(n:Int):Nat:=l.findIdx fun x=>decide (x>n)
def c_(l:aX)(n:Int):aX:=if l.contains n then l else l.take (gO l n)++n::l.drop (gO l n)
def kq:al->cZ
 | [.sl _ xs,.int .i64 n]=>(e_ xs).bind fun l=>if(l.length+1)*8<=140737488355328 then some (.sl (.own [] 0) ((c_ l n).map (.int .i64)))else none
 |_=>none
theorem Np(l:aX)(n:Int):c_ l n≠[]:=by
 unfold c_;split
 ·rename_i h;intro a;rw[a]at h;simp at h
 ·simp
def jx:List (Nat×(al->cZ))->Nat->Option (al->cZ)
 | [],_=>none
 |(k,g)::r,n=>match Nat.beq n k with
  |true=>some g
  |false=>jx r n
theorem vq:∀{l:List (Nat×(al->cZ))} {k:Nat} {g:al->cZ},jx l k=some g->(k,g)∈l
 | [],_,_,h=>by simp[jx]at h
 |(a,u)::r,k,g,h=>by
  simp only[jx]at h;cases hb:Nat.beq k a with
  |true=>rw[hb]at h;simp only[aL]at h;subst h;have:=Nat.eq_of_beq_eq_true hb;subst this;exact fH
  |false=>rw[hb]at h;exact em _ (vq h)
theorem FL:∀{xs:al} {l:aX},e_ xs=some l->xs=l.map (.int .i64)
 | [],l,h=>by simp[e_]at h;subst h;rfl
 | .int .i64 n::r,l,h=>by simp only[e_,ay]at h;obtain⟨l',a,rfl⟩:=h;rw[FL a];rfl
 | .int .i8 _::r,l,h=>by simp[e_]at h
 | .int .i16 _::r,l,h=>by simp[e_]at h
 | .int .i32 _::r,l,h=>by simp[e_]at h
 | .int .u8 _::r,l,h=>by simp[e_]at h
 | .int .u16 _::r,l,h=>by simp[e_]at h
 | .int .u32 _::r,l,h=>by simp[e_]at h
 | .int .u64 _::r,l,h=>by simp[e_]at h
 | .str _::r,l,h=>by simp[e_]at h
 | .bool _::r,l,h=>by simp[e_]at h
 | .agg _::r,l,h=>by simp[e_]at h
 | .tup _::r,l,h=>by simp[e_]at h
 | .sl _ _::r,l,h=>by simp[e_]at h
theorem Gd:∀l:aX,e_ (l.map (.int .i64))=some l
 | []=>rfl
 |s::l=>by simp[e_,Gd l]
mutual
def DV.sh:DV->DV
 | .sl t xs=> .sl (if t= .nil then .nil else .sub) (DV.shs xs)
 | .agg cs=> .agg (DV.shs cs)
 | .tup cs=> .tup (DV.shs cs)
 | .int k n=> .int k n
 | .bool b=> .bool b
 | .str s=> .str s
def DV.shs:al->al
 | []=>[]
 |x::xs=>x.sh::DV.shs xs
end
theorem kV:∀xs:al,DV.shs xs=xs.map DV.sh
 | []=>by simp[DV.shs]
 |x::xs=>by simp[DV.shs,kV xs]
def kJ:DV->Bool
 | .agg [.int .i64 _,.int .i64 _,.sl _ _]=>true
 |_=>false
def nv:DV->Option Int
 | .agg [.int .i64 v,.int .i64 _,.int .i64 _,.sl _ _]=>some v
 |_=>none
def iP:al->Option aX
 | []=>some []
 |x::r=>(nv x).bind fun v=>(iP r).map (v::·)
def rowsOf:al->Option (List al)
 | []=>some []
 | .sl _ xs::r=>(rowsOf r).map (xs::·)
 |_=>none
def kh:al->cZ
 | [.sl _ xs,.int .i64 i]=>if xs.all kJ=true/\0<=i/\i<xs.length/\xs.length*40<=140737488355328 then some (.sl .sub ((xs.take i.toNat++xs.drop (i.toNat+1)).map DV.sh))else none
 |_=>none
def jh(vs:aX)(v:Int):Nat:=vs.findIdx fun x=>decide (x>v)
def km:al->cZ
 | [.sl _ xs,.int .i64 v,.agg [.int .i64 a,.int .i64 b,.sl t ks]]=>(iP xs).bind fun vs=>if(xs.length+1)*48<=140737488355328 then
  some (.sl .sub ((xs.take (jh vs v)++ .agg [.int .i64 v,.int .i64 a,.int .i64 b,.sl t ks]::xs.drop (jh vs v)).map DV.sh))else none
 |_=>none
def j_(sz a:Nat):al->cZ
 | [.sl _ rows]=>(rowsOf rows).bind fun l=>if l.flatten.all (fun x=>decide (x.cells.length=sz))=true/\0<l.flatten.length/\l.flatten.length*a<=140737488355328 then some (.sl .sub (l.flatten.map DV.sh))else none
 |_=>none
end Go.Proofs.YtpcoohnjllclnaaGreat.VS
