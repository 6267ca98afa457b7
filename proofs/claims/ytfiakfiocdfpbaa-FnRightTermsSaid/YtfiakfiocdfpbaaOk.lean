/- The evaluator's code is the program's. -/
import Derived.Test.YtfiakfiocdfpbaaNat1
import Derived.Test.YtfiakfiocdfpbaaCode
import Derived.Test.YtfiakfiocdfpbaaChecked
import Derived.KernelRfl
set_option linter.unusedVariables false
namespace Go.Proofs.Ytfiakfiocdfpbaa.VS
open Go.Proofs
def fid:Nat->FuncId
 |3=>89
 |4=>14
 |6=>53
 |13=>107
 |14=>102
 |18=>123
 |19=>122
 |22=>67
 |23=>64
 |24=>104
 |25=>103
 |29=>56
 |30=>81
 |31=>60
 |33=>58
 |34=>17
 |38=>93
 |39=>96
 |47=>126
 |53=>136
 |54=>125
 |55=>133
 |56=>140
 |59=>106
 |60=>101
 |61=>120
 |62=>121
 |67=>44
 |68=>32
 |70=>20
 |71=>83
 |72=>82
 |73=>71
 |74=>110
 |75=>105
 |76=>86
 |77=>63
 |78=>65
 |79=>72
 |80=>21
 |81=>74
 |82=>66
 |83=>68
 |84=>76
 |85=>112
 |90=>46
 |91=>45
 |92=>94
 |93=>95
 |94=>114
 |95=>115
 |96=>116
 |97=>130
 |98=>97
 |102=>75
 |103=>25
 |104=>70
 |105=>108
 |106=>109
 |107=>124
 |108=>127
 |109=>128
 |110=>73
 |111=>111
 |112=>129
 |117=>23
 |118=>22
 |132=>8
 |133=>9
 |134=>31
 |135=>33
 |136=>34
 |137=>35
 |138=>36
 |139=>37
 |140=>38
 |141=>39
 |142=>41
 |143=>40
 |144=>42
 |145=>43
 |146=>78
 |147=>92
 |148=>90
 |149=>91
 |150=>77
 |151=>57
 |152=>88
 |153=>15
 |154=>59
 |155=>49
 |156=>47
 |157=>79
 |158=>113
 |159=>54
 |160=>55
 |161=>80
 |162=>48
 |163=>85
 |164=>61
 |165=>100
 |166=>50
 |167=>87
 |168=>84
 |169=>11
 |170=>52
 |171=>99
 |172=>118
 |173=>119
 |174=>132
 |175=>139
 |176=>7
 |177=>28
 |178=>26
 |179=>27
 |180=>69
 |189=>3
 |190=>10
 |191=>12
 |192=>13
 |193=>16
 |194=>51
 |195=>98
 |196=>117
 |197=>62
 |339=>30
 |340=>29
 |363=>6
 |364=>5
 |365=>24
 |366=>4
 |367=>18
 |368=>19
 |_=>0
theorem qKI:∃fn,Try.prog.funcs[fid 3]?=some fn/\qct Try.prog fid fn v3=true:=⟨Try.f89,Try.func89,by kernel_rfl⟩
theorem qKH:∃fn,Try.prog.funcs[fid 4]?=some fn/\qct Try.prog fid fn v4=true:=⟨Try.f14,Try.func14,by kernel_rfl⟩
theorem qKG:∃fn,Try.prog.funcs[fid 6]?=some fn/\qct Try.prog fid fn v6=true:=⟨Try.f53,Try.func53,by kernel_rfl⟩
theorem qIx:∃fn,Try.prog.funcs[fid 13]?=some fn/\qct Try.prog fid fn v13=true:=⟨Try.f107,Try.func107,by kernel_rfl⟩
theorem qIw:∃fn,Try.prog.funcs[fid 14]?=some fn/\qct Try.prog fid fn v14=true:=⟨Try.f102,Try.func102,by kernel_rfl⟩
theorem qIv:∃fn,Try.prog.funcs[fid 18]?=some fn/\qct Try.prog fid fn v18=true:=⟨Try.f123,Try.func123,by kernel_rfl⟩
theorem qIu:∃fn,Try.prog.funcs[fid 19]?=some fn/\qct Try.prog fid fn v19=true:=⟨Try.f122,Try.func122,by kernel_rfl⟩
theorem qIt:∃fn,Try.prog.funcs[fid 22]?=some fn/\qct Try.prog fid fn v22=true:=⟨Try.f67,Try.func67,by kernel_rfl⟩
theorem qIs:∃fn,Try.prog.funcs[fid 23]?=some fn/\qct Try.prog fid fn v23=true:=⟨Try.f64,Try.func64,by kernel_rfl⟩
theorem qIr:∃fn,Try.prog.funcs[fid 24]?=some fn/\qct Try.prog fid fn v24=true:=⟨Try.f104,Try.func104,by kernel_rfl⟩
theorem qIq:∃fn,Try.prog.funcs[fid 25]?=some fn/\qct Try.prog fid fn v25=true:=⟨Try.f103,Try.func103,by kernel_rfl⟩
theorem qIp:∃fn,Try.prog.funcs[fid 29]?=some fn/\qct Try.prog fid fn v29=true:=⟨Try.f56,Try.func56,by kernel_rfl⟩
theorem qIo:∃fn,Try.prog.funcs[fid 30]?=some fn/\qct Try.prog fid fn v30=true:=⟨Try.f81,Try.func81,by kernel_rfl⟩
theorem qIn:∃fn,Try.prog.funcs[fid 31]?=some fn/\qct Try.prog fid fn v31=true:=⟨Try.f60,Try.func60,by kernel_rfl⟩
theorem qIm:∃fn,Try.prog.funcs[fid 33]?=some fn/\qct Try.prog fid fn v33=true:=⟨Try.f58,Try.func58,by kernel_rfl⟩
theorem qIl:∃fn,Try.prog.funcs[fid 34]?=some fn/\qct Try.prog fid fn v34=true:=⟨Try.f17,Try.func17,by kernel_rfl⟩
theorem qIk:∃fn,Try.prog.funcs[fid 59]?=some fn/\qct Try.prog fid fn v59=true:=⟨Try.f106,Try.func106,by kernel_rfl⟩
theorem qIj:∃fn,Try.prog.funcs[fid 60]?=some fn/\qct Try.prog fid fn v60=true:=⟨Try.f101,Try.func101,by kernel_rfl⟩
theorem qIi:∃fn,Try.prog.funcs[fid 61]?=some fn/\qct Try.prog fid fn v61=true:=⟨Try.f120,Try.func120,by kernel_rfl⟩
theorem qIh:∃fn,Try.prog.funcs[fid 62]?=some fn/\qct Try.prog fid fn v62=true:=⟨Try.f121,Try.func121,by kernel_rfl⟩
theorem qIg:∃fn,Try.prog.funcs[fid 70]?=some fn/\qct Try.prog fid fn v70=true:=⟨Try.f20,Try.func20,by kernel_rfl⟩
theorem qIf:∃fn,Try.prog.funcs[fid 75]?=some fn/\qct Try.prog fid fn v75=true:=⟨Try.f105,Try.func105,by kernel_rfl⟩
theorem qIe:∃fn,Try.prog.funcs[fid 77]?=some fn/\qct Try.prog fid fn v77=true:=⟨Try.f63,Try.func63,by kernel_rfl⟩
theorem qId:∃fn,Try.prog.funcs[fid 78]?=some fn/\qct Try.prog fid fn v78=true:=⟨Try.f65,Try.func65,by kernel_rfl⟩
theorem qIc:∃fn,Try.prog.funcs[fid 79]?=some fn/\qct Try.prog fid fn v79=true:=⟨Try.f72,Try.func72,by kernel_rfl⟩
theorem qIb:∃fn,Try.prog.funcs[fid 80]?=some fn/\qct Try.prog fid fn v80=true:=⟨Try.f21,Try.func21,by kernel_rfl⟩
theorem qIa:∃fn,Try.prog.funcs[fid 82]?=some fn/\qct Try.prog fid fn v82=true:=⟨Try.f66,Try.func66,by kernel_rfl⟩
theorem qH9:∃fn,Try.prog.funcs[fid 83]?=some fn/\qct Try.prog fid fn v83=true:=⟨Try.f68,Try.func68,by kernel_rfl⟩
theorem qH8:∃fn,Try.prog.funcs[fid 84]?=some fn/\qct Try.prog fid fn v84=true:=⟨Try.f76,Try.func76,by kernel_rfl⟩
theorem qFC:∃fn,Try.prog.funcs[fid 117]?=some fn/\qct Try.prog fid fn qtw=true:=⟨Try.f23,Try.func23,by kernel_rfl⟩
theorem qFB:∃fn,Try.prog.funcs[fid 118]?=some fn/\qct Try.prog fid fn qtv=true:=⟨Try.f22,Try.func22,by kernel_rfl⟩
theorem qFA:∃fn,Try.prog.funcs[fid 133]?=some fn/\qct Try.prog fid fn qDs=true:=⟨Try.f9,Try.func9,by kernel_rfl⟩
theorem qFz:∃fn,Try.prog.funcs[fid 147]?=some fn/\qct Try.prog fid fn qDr=true:=⟨Try.f92,Try.func92,by kernel_rfl⟩
theorem qFy:∃fn,Try.prog.funcs[fid 153]?=some fn/\qct Try.prog fid fn qDq=true:=⟨Try.f15,Try.func15,by kernel_rfl⟩
theorem qFx:∃fn,Try.prog.funcs[fid 154]?=some fn/\qct Try.prog fid fn qDp=true:=⟨Try.f59,Try.func59,by kernel_rfl⟩
theorem qFw:∃fn,Try.prog.funcs[fid 155]?=some fn/\qct Try.prog fid fn qDo=true:=⟨Try.f49,Try.func49,by kernel_rfl⟩
theorem qFv:∃fn,Try.prog.funcs[fid 156]?=some fn/\qct Try.prog fid fn qDn=true:=⟨Try.f47,Try.func47,by kernel_rfl⟩
theorem qFu:∃fn,Try.prog.funcs[fid 159]?=some fn/\qct Try.prog fid fn qDm=true:=⟨Try.f54,Try.func54,by kernel_rfl⟩
theorem qFt:∃fn,Try.prog.funcs[fid 160]?=some fn/\qct Try.prog fid fn qDl=true:=⟨Try.f55,Try.func55,by kernel_rfl⟩
theorem qFs:∃fn,Try.prog.funcs[fid 161]?=some fn/\qct Try.prog fid fn qDk=true:=⟨Try.f80,Try.func80,by kernel_rfl⟩
theorem qFr:∃fn,Try.prog.funcs[fid 162]?=some fn/\qct Try.prog fid fn qDj=true:=⟨Try.f48,Try.func48,by kernel_rfl⟩
theorem qFq:∃fn,Try.prog.funcs[fid 163]?=some fn/\qct Try.prog fid fn qDi=true:=⟨Try.f85,Try.func85,by kernel_rfl⟩
theorem qFp:∃fn,Try.prog.funcs[fid 164]?=some fn/\qct Try.prog fid fn qDh=true:=⟨Try.f61,Try.func61,by kernel_rfl⟩
theorem qFo:∃fn,Try.prog.funcs[fid 165]?=some fn/\qct Try.prog fid fn qBo=true:=⟨Try.f100,Try.func100,by kernel_rfl⟩
theorem qFn:∃fn,Try.prog.funcs[fid 166]?=some fn/\qct Try.prog fid fn qDg=true:=⟨Try.f50,Try.func50,by kernel_rfl⟩
theorem qFm:∃fn,Try.prog.funcs[fid 169]?=some fn/\qct Try.prog fid fn qJQ=true:=⟨Try.f11,Try.func11,by kernel_rfl⟩
theorem qFl:∃fn,Try.prog.funcs[fid 170]?=some fn/\qct Try.prog fid fn qzv=true:=⟨Try.f52,Try.func52,by kernel_rfl⟩
theorem qFk:∃fn,Try.prog.funcs[fid 171]?=some fn/\qct Try.prog fid fn qzu=true:=⟨Try.f99,Try.func99,by kernel_rfl⟩
theorem qFj:∃fn,Try.prog.funcs[fid 172]?=some fn/\qct Try.prog fid fn qw0=true:=⟨Try.f118,Try.func118,by kernel_rfl⟩
theorem qFi:∃fn,Try.prog.funcs[fid 173]?=some fn/\qct Try.prog fid fn qwZ=true:=⟨Try.f119,Try.func119,by kernel_rfl⟩
theorem qFh:∃fn,Try.prog.funcs[fid 174]?=some fn/\qct Try.prog fid fn qDf=true:=⟨Try.f132,Try.func132,by kernel_rfl⟩
theorem qFg:∃fn,Try.prog.funcs[fid 175]?=some fn/\qct Try.prog fid fn qDe=true:=⟨Try.f139,Try.func139,by kernel_rfl⟩
theorem qFf:∃fn,Try.prog.funcs[fid 194]?=some fn/\qct Try.prog fid fn qzt=true:=⟨Try.f51,Try.func51,by kernel_rfl⟩
theorem qFe:∃fn,Try.prog.funcs[fid 195]?=some fn/\qct Try.prog fid fn qsw=true:=⟨Try.f98,Try.func98,by kernel_rfl⟩
theorem qFd:∃fn,Try.prog.funcs[fid 196]?=some fn/\qct Try.prog fid fn qDd=true:=⟨Try.f117,Try.func117,by kernel_rfl⟩
theorem qFc:∃fn,Try.prog.funcs[fid 366]?=some fn/\qct Try.prog fid fn qzs=true:=⟨Try.f4,Try.func4,by kernel_rfl⟩
theorem qFb:∃fn,Try.prog.funcs[fid 367]?=some fn/\qct Try.prog fid fn qDc=true:=⟨Try.f18,Try.func18,by kernel_rfl⟩
theorem qFa:∃fn,Try.prog.funcs[fid 368]?=some fn/\qct Try.prog fid fn qDb=true:=⟨Try.f19,Try.func19,by kernel_rfl⟩
theorem qlP:∀{l:List (Nat×VFn)} {k:Nat} {v:VFn},look l k=some v->(k,v)∈l
 | [],_,_,h=>by simp[look]at h
 |(a,u)::r,k,v,h=>by
  simp only[look]at h;split at h
  ·rename_i hk
   simp at h;subst h;subst hk;simp
  ·exact List.mem_cons_of_mem _ (qlP h)
theorem qze:qyY.all (fun q=>qAI (qCc qGE q.1) q.2.code)=true:=by kernel_rfl
theorem qyX:∀q,q∈qyY->∃fn,Try.prog.funcs[fid q.1]?=some fn/\qct Try.prog fid fn q.2=true:=
 List.forall_mem_cons.2 ⟨qKI,List.forall_mem_cons.2 ⟨qKH,List.forall_mem_cons.2 ⟨qKG,List.forall_mem_cons.2 ⟨qIx,List.forall_mem_cons.2 ⟨qIw,List.forall_mem_cons.2 ⟨qIv,List.forall_mem_cons.2 ⟨qIu,List.forall_mem_cons.2 ⟨qIt,List.forall_mem_cons.2 ⟨qIs,List.forall_mem_cons.2 ⟨qIr,List.forall_mem_cons.2 ⟨qIq,List.forall_mem_cons.2 ⟨qIp,List.forall_mem_cons.2 ⟨qIo,List.forall_mem_cons.2 ⟨qIn,List.forall_mem_cons.2 ⟨qIm,List.forall_mem_cons.2 ⟨qIl,List.forall_mem_cons.2 ⟨qIk,List.forall_mem_cons.2 ⟨qIj,List.forall_mem_cons.2 ⟨qIi,List.forall_mem_cons.2 ⟨qIh,List.forall_mem_cons.2 ⟨qIg,List.forall_mem_cons.2 ⟨qIf,List.forall_mem_cons.2 ⟨qIe,List.forall_mem_cons.2 ⟨qId,List.forall_mem_cons.2 ⟨qIc,List.forall_mem_cons.2 ⟨qIb,List.forall_mem_cons.2 ⟨qIa,List.forall_mem_cons.2 ⟨qH9,List.forall_mem_cons.2 ⟨qH8,List.forall_mem_cons.2 ⟨qFC,List.forall_mem_cons.2 ⟨qFB,List.forall_mem_cons.2 ⟨qFA,List.forall_mem_cons.2 ⟨qFz,List.forall_mem_cons.2 ⟨qFy,List.forall_mem_cons.2 ⟨qFx,List.forall_mem_cons.2 ⟨qFw,List.forall_mem_cons.2 ⟨qFv,List.forall_mem_cons.2 ⟨qFu,List.forall_mem_cons.2 ⟨qFt,List.forall_mem_cons.2 ⟨qFs,List.forall_mem_cons.2 ⟨qFr,List.forall_mem_cons.2 ⟨qFq,List.forall_mem_cons.2 ⟨qFp,List.forall_mem_cons.2 ⟨qFo,List.forall_mem_cons.2 ⟨qFn,List.forall_mem_cons.2 ⟨qFl,List.forall_mem_cons.2 ⟨qFk,List.forall_mem_cons.2 ⟨qFj,List.forall_mem_cons.2 ⟨qFi,List.forall_mem_cons.2 ⟨qFh,List.forall_mem_cons.2 ⟨qFg,List.forall_mem_cons.2 ⟨qFf,List.forall_mem_cons.2 ⟨qFe,List.forall_mem_cons.2 ⟨qFd,List.forall_mem_cons.2 ⟨qFc,List.forall_mem_cons.2 ⟨qFb,List.forall_mem_cons.2 ⟨qFa,List.forall_mem_nil _⟩⟩⟩⟩⟩⟩⟩⟩⟩⟩⟩⟩⟩⟩⟩⟩⟩⟩⟩⟩⟩⟩⟩⟩⟩⟩⟩⟩⟩⟩⟩⟩⟩⟩⟩⟩⟩⟩⟩⟩⟩⟩⟩⟩⟩⟩⟩⟩⟩⟩⟩⟩⟩⟩⟩⟩⟩
end Go.Proofs.Ytfiakfiocdfpbaa.VS
