/- The evaluator's code is the program's. -/
import Derived.Test.YtpcoohnjllclnaaNat1
import Derived.Test.YtpcoohnjllclnaaCode
import Derived.Test.YtpcoohnjllclnaaChecked
import Derived.KernelRfl
set_option linter.unusedVariables false
namespace Go.Proofs.Ytpcoohnjllclnaa.VS
open Go.Proofs
def fid:Nat->FuncId
 |30=>37
 |31=>42
 |42=>12
 |43=>11
 |45=>34
 |46=>35
 |47=>46
 |48=>36
 |50=>14
 |51=>13
 |133=>4
 |156=>21
 |159=>32
 |160=>38
 |162=>31
 |165=>45
 |188=>15
 |203=>33
 |205=>3
 |206=>5
 |207=>6
 |208=>7
 |209=>8
 |210=>9
 |211=>10
 |212=>16
 |213=>17
 |214=>18
 |215=>19
 |216=>20
 |217=>29
 |218=>30
 |219=>44
 |220=>43
 |221=>47
 |222=>23
 |223=>25
 |224=>24
 |225=>26
 |226=>28
 |227=>27
 |228=>41
 |229=>40
 |230=>39
 |231=>22
 |_=>0
theorem qFO:∃fn,Try.prog.funcs[fid 30]?=some fn/\qd9 Try.prog fid fn v30=true:=⟨Try.f37,Try.func37,by kernel_rfl⟩
theorem qFN:∃fn,Try.prog.funcs[fid 31]?=some fn/\qd9 Try.prog fid fn v31=true:=⟨Try.f42,Try.func42,by kernel_rfl⟩
theorem qFM:∃fn,Try.prog.funcs[fid 42]?=some fn/\qd9 Try.prog fid fn v42=true:=⟨Try.f12,Try.func12,by kernel_rfl⟩
theorem qFL:∃fn,Try.prog.funcs[fid 43]?=some fn/\qd9 Try.prog fid fn v43=true:=⟨Try.f11,Try.func11,by kernel_rfl⟩
theorem qFK:∃fn,Try.prog.funcs[fid 45]?=some fn/\qd9 Try.prog fid fn v45=true:=⟨Try.f34,Try.func34,by kernel_rfl⟩
theorem qFJ:∃fn,Try.prog.funcs[fid 46]?=some fn/\qd9 Try.prog fid fn v46=true:=⟨Try.f35,Try.func35,by kernel_rfl⟩
theorem qFI:∃fn,Try.prog.funcs[fid 47]?=some fn/\qd9 Try.prog fid fn v47=true:=⟨Try.f46,Try.func46,by kernel_rfl⟩
theorem qFH:∃fn,Try.prog.funcs[fid 48]?=some fn/\qd9 Try.prog fid fn v48=true:=⟨Try.f36,Try.func36,by kernel_rfl⟩
theorem qFG:∃fn,Try.prog.funcs[fid 50]?=some fn/\qd9 Try.prog fid fn v50=true:=⟨Try.f14,Try.func14,by kernel_rfl⟩
theorem qFF:∃fn,Try.prog.funcs[fid 51]?=some fn/\qd9 Try.prog fid fn v51=true:=⟨Try.f13,Try.func13,by kernel_rfl⟩
theorem qDj:∃fn,Try.prog.funcs[fid 133]?=some fn/\qd9 Try.prog fid fn qBP=true:=⟨Try.f4,Try.func4,by kernel_rfl⟩
theorem qDi:∃fn,Try.prog.funcs[fid 156]?=some fn/\qd9 Try.prog fid fn qBO=true:=⟨Try.f21,Try.func21,by kernel_rfl⟩
theorem qDh:∃fn,Try.prog.funcs[fid 159]?=some fn/\qd9 Try.prog fid fn qBN=true:=⟨Try.f32,Try.func32,by kernel_rfl⟩
theorem qDg:∃fn,Try.prog.funcs[fid 160]?=some fn/\qd9 Try.prog fid fn qBM=true:=⟨Try.f38,Try.func38,by kernel_rfl⟩
theorem qDf:∃fn,Try.prog.funcs[fid 162]?=some fn/\qd9 Try.prog fid fn qym=true:=⟨Try.f31,Try.func31,by kernel_rfl⟩
theorem qDe:∃fn,Try.prog.funcs[fid 165]?=some fn/\qd9 Try.prog fid fn qz6=true:=⟨Try.f45,Try.func45,by kernel_rfl⟩
theorem qDd:∃fn,Try.prog.funcs[fid 188]?=some fn/\qd9 Try.prog fid fn qw7=true:=⟨Try.f15,Try.func15,by kernel_rfl⟩
theorem qDc:∃fn,Try.prog.funcs[fid 203]?=some fn/\qd9 Try.prog fid fn qBL=true:=⟨Try.f33,Try.func33,by kernel_rfl⟩
theorem qDb:∃fn,Try.prog.funcs[fid 205]?=some fn/\qd9 Try.prog fid fn qz5=true:=⟨Try.f3,Try.func3,by kernel_rfl⟩
theorem qDa:∃fn,Try.prog.funcs[fid 206]?=some fn/\qd9 Try.prog fid fn qBK=true:=⟨Try.f5,Try.func5,by kernel_rfl⟩
theorem qC9:∃fn,Try.prog.funcs[fid 207]?=some fn/\qd9 Try.prog fid fn qrJ=true:=⟨Try.f6,Try.func6,by kernel_rfl⟩
theorem qC8:∃fn,Try.prog.funcs[fid 208]?=some fn/\qd9 Try.prog fid fn qt1=true:=⟨Try.f7,Try.func7,by kernel_rfl⟩
theorem qC7:∃fn,Try.prog.funcs[fid 209]?=some fn/\qd9 Try.prog fid fn qs4=true:=⟨Try.f8,Try.func8,by kernel_rfl⟩
theorem qC6:∃fn,Try.prog.funcs[fid 210]?=some fn/\qd9 Try.prog fid fn qj5=true:=⟨Try.f9,Try.func9,by kernel_rfl⟩
theorem qC5:∃fn,Try.prog.funcs[fid 211]?=some fn/\qd9 Try.prog fid fn qBJ=true:=⟨Try.f10,Try.func10,by kernel_rfl⟩
theorem qC4:∃fn,Try.prog.funcs[fid 212]?=some fn/\qd9 Try.prog fid fn qz4=true:=⟨Try.f16,Try.func16,by kernel_rfl⟩
theorem qC3:∃fn,Try.prog.funcs[fid 213]?=some fn/\qd9 Try.prog fid fn qz3=true:=⟨Try.f17,Try.func17,by kernel_rfl⟩
theorem qC2:∃fn,Try.prog.funcs[fid 214]?=some fn/\qd9 Try.prog fid fn qyl=true:=⟨Try.f18,Try.func18,by kernel_rfl⟩
theorem qC1:∃fn,Try.prog.funcs[fid 215]?=some fn/\qd9 Try.prog fid fn qBI=true:=⟨Try.f19,Try.func19,by kernel_rfl⟩
theorem qC0:∃fn,Try.prog.funcs[fid 216]?=some fn/\qd9 Try.prog fid fn qBH=true:=⟨Try.f20,Try.func20,by kernel_rfl⟩
theorem qCZ:∃fn,Try.prog.funcs[fid 217]?=some fn/\qd9 Try.prog fid fn qz2=true:=⟨Try.f29,Try.func29,by kernel_rfl⟩
theorem qCY:∃fn,Try.prog.funcs[fid 218]?=some fn/\qd9 Try.prog fid fn qz1=true:=⟨Try.f30,Try.func30,by kernel_rfl⟩
theorem qCX:∃fn,Try.prog.funcs[fid 219]?=some fn/\qd9 Try.prog fid fn qz0=true:=⟨Try.f44,Try.func44,by kernel_rfl⟩
theorem qCW:∃fn,Try.prog.funcs[fid 220]?=some fn/\qd9 Try.prog fid fn qw6=true:=⟨Try.f43,Try.func43,by kernel_rfl⟩
theorem qCV:∃fn,Try.prog.funcs[fid 221]?=some fn/\qd9 Try.prog fid fn qzZ=true:=⟨Try.f47,Try.func47,by kernel_rfl⟩
theorem qCU:∃fn,Try.prog.funcs[fid 222]?=some fn/\qd9 Try.prog fid fn qzY=true:=⟨Try.f23,Try.func23,by kernel_rfl⟩
theorem qCT:∃fn,Try.prog.funcs[fid 223]?=some fn/\qd9 Try.prog fid fn qzX=true:=⟨Try.f25,Try.func25,by kernel_rfl⟩
theorem qCS:∃fn,Try.prog.funcs[fid 224]?=some fn/\qd9 Try.prog fid fn qw5=true:=⟨Try.f24,Try.func24,by kernel_rfl⟩
theorem qCR:∃fn,Try.prog.funcs[fid 226]?=some fn/\qd9 Try.prog fid fn qBG=true:=⟨Try.f28,Try.func28,by kernel_rfl⟩
theorem qCQ:∃fn,Try.prog.funcs[fid 227]?=some fn/\qd9 Try.prog fid fn qzW=true:=⟨Try.f27,Try.func27,by kernel_rfl⟩
theorem qCP:∃fn,Try.prog.funcs[fid 228]?=some fn/\qd9 Try.prog fid fn qzV=true:=⟨Try.f41,Try.func41,by kernel_rfl⟩
theorem qCO:∃fn,Try.prog.funcs[fid 230]?=some fn/\qd9 Try.prog fid fn qBF=true:=⟨Try.f39,Try.func39,by kernel_rfl⟩
theorem qCN:∃fn,Try.prog.funcs[fid 231]?=some fn/\qd9 Try.prog fid fn qyk=true:=⟨Try.f22,Try.func22,by kernel_rfl⟩
theorem qme:∀{l:List (Nat×VFn)} {k:Nat} {v:VFn},look l k=some v->(k,v)∈l
 | [],_,_,h=>by simp[look]at h
 |(a,u)::r,k,v,h=>by
  simp only[look]at h;split at h
  ·rename_i hk
   simp at h;subst h;subst hk;simp
  ·exact List.mem_cons_of_mem _ (qme h)
theorem qx5:qxT.all (fun q=>qzb (qAA qEd q.1) q.2.code)=true:=by kernel_rfl
theorem qxS:∀q,q∈qxT->∃fn,Try.prog.funcs[fid q.1]?=some fn/\qd9 Try.prog fid fn q.2=true:=
 List.forall_mem_cons.2 ⟨qFO,List.forall_mem_cons.2 ⟨qFN,List.forall_mem_cons.2 ⟨qFM,List.forall_mem_cons.2 ⟨qFL,List.forall_mem_cons.2 ⟨qFK,List.forall_mem_cons.2 ⟨qFJ,List.forall_mem_cons.2 ⟨qFI,List.forall_mem_cons.2 ⟨qFH,List.forall_mem_cons.2 ⟨qFG,List.forall_mem_cons.2 ⟨qFF,List.forall_mem_cons.2 ⟨qDj,List.forall_mem_cons.2 ⟨qDi,List.forall_mem_cons.2 ⟨qDh,List.forall_mem_cons.2 ⟨qDg,List.forall_mem_cons.2 ⟨qDf,List.forall_mem_cons.2 ⟨qDe,List.forall_mem_cons.2 ⟨qDd,List.forall_mem_cons.2 ⟨qDc,List.forall_mem_cons.2 ⟨qDb,List.forall_mem_cons.2 ⟨qDa,List.forall_mem_cons.2 ⟨qC9,List.forall_mem_cons.2 ⟨qC8,List.forall_mem_cons.2 ⟨qC7,List.forall_mem_cons.2 ⟨qC6,List.forall_mem_cons.2 ⟨qC5,List.forall_mem_cons.2 ⟨qC4,List.forall_mem_cons.2 ⟨qC3,List.forall_mem_cons.2 ⟨qC2,List.forall_mem_cons.2 ⟨qC1,List.forall_mem_cons.2 ⟨qC0,List.forall_mem_cons.2 ⟨qCZ,List.forall_mem_cons.2 ⟨qCY,List.forall_mem_cons.2 ⟨qCX,List.forall_mem_cons.2 ⟨qCW,List.forall_mem_cons.2 ⟨qCV,List.forall_mem_cons.2 ⟨qCU,List.forall_mem_cons.2 ⟨qCT,List.forall_mem_cons.2 ⟨qCS,List.forall_mem_cons.2 ⟨qCR,List.forall_mem_cons.2 ⟨qCQ,List.forall_mem_cons.2 ⟨qCP,List.forall_mem_cons.2 ⟨qCO,List.forall_mem_cons.2 ⟨qCN,List.forall_mem_nil _⟩⟩⟩⟩⟩⟩⟩⟩⟩⟩⟩⟩⟩⟩⟩⟩⟩⟩⟩⟩⟩⟩⟩⟩⟩⟩⟩⟩⟩⟩⟩⟩⟩⟩⟩⟩⟩⟩⟩⟩⟩⟩⟩
end Go.Proofs.Ytpcoohnjllclnaa.VS
