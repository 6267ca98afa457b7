/- The evaluator's code is the program's. -/
import Derived.Test.YtfiakfiocdfpbaaNat1
import Derived.Test.YtfiakfiocdfpbaaCode
import Derived.Test.YtfiakfiocdfpbaaChecked
import Derived.KernelRfl
set_option linter.unusedVariables false
namespace Go.Proofs.Ytfiakfiocdfpbaa.VS
open Go.Proofs
def fid:Nat->FuncId
 |3=>89
 |4=>14
 |6=>53
 |13=>107
 |14=>102
 |18=>123
 |19=>122
 |22=>67
 |23=>64
 |24=>104
 |25=>103
 |29=>56
 |30=>81
 |31=>60
 |33=>58
 |34=>17
 |38=>93
 |39=>96
 |47=>126
 |53=>136
 |54=>125
 |55=>133
 |56=>140
 |59=>106
 |60=>101
 |61=>120
 |62=>121
 |67=>44
 |68=>32
 |70=>20
 |71=>83
 |72=>82
 |73=>71
 |74=>110
 |75=>105
 |76=>86
 |77=>63
 |78=>65
 |79=>72
 |80=>21
 |81=>74
 |82=>66
 |83=>68
 |84=>76
 |85=>112
 |90=>46
 |91=>45
 |92=>94
 |93=>95
 |94=>114
 |95=>115
 |96=>116
 |97=>130
 |98=>97
 |102=>75
 |103=>25
 |104=>70
 |105=>108
 |106=>109
 |107=>124
 |108=>127
 |109=>128
 |110=>73
 |111=>111
 |112=>129
 |117=>23
 |118=>22
 |132=>8
 |133=>9
 |134=>31
 |135=>33
 |136=>34
 |137=>35
 |138=>36
 |139=>37
 |140=>38
 |141=>39
 |142=>41
 |143=>40
 |144=>42
 |145=>43
 |146=>78
 |147=>92
 |148=>90
 |149=>91
 |150=>77
 |151=>57
 |152=>88
 |153=>15
 |154=>59
 |155=>49
 |156=>47
 |157=>79
 |158=>113
 |159=>54
 |160=>55
 |161=>80
 |162=>48
 |163=>85
 |164=>61
 |165=>100
 |166=>50
 |167=>87
 |168=>84
 |169=>11
 |170=>52
 |171=>99
 |172=>118
 |173=>119
 |174=>132
 |175=>139
 |176=>7
 |177=>28
 |178=>26
 |179=>27
 |180=>69
 |189=>3
 |190=>10
 |191=>12
 |192=>13
 |193=>16
 |194=>51
 |195=>98
 |196=>117
 |197=>62
 |339=>30
 |340=>29
 |363=>6
 |364=>5
 |365=>24
 |366=>4
 |367=>18
 |368=>19
 |_=>0
theorem qHt:∃fn,Try.prog.funcs[fid 3]?=some fn/\qdn Try.prog fid fn v3=true:=⟨Try.f89,Try.func89,by kernel_rfl⟩
theorem qHs:∃fn,Try.prog.funcs[fid 4]?=some fn/\qdn Try.prog fid fn v4=true:=⟨Try.f14,Try.func14,by kernel_rfl⟩
theorem qHr:∃fn,Try.prog.funcs[fid 6]?=some fn/\qdn Try.prog fid fn v6=true:=⟨Try.f53,Try.func53,by kernel_rfl⟩
theorem qFQ:∃fn,Try.prog.funcs[fid 29]?=some fn/\qdn Try.prog fid fn v29=true:=⟨Try.f56,Try.func56,by kernel_rfl⟩
theorem qFP:∃fn,Try.prog.funcs[fid 30]?=some fn/\qdn Try.prog fid fn v30=true:=⟨Try.f81,Try.func81,by kernel_rfl⟩
theorem qFO:∃fn,Try.prog.funcs[fid 31]?=some fn/\qdn Try.prog fid fn v31=true:=⟨Try.f60,Try.func60,by kernel_rfl⟩
theorem qFN:∃fn,Try.prog.funcs[fid 33]?=some fn/\qdn Try.prog fid fn v33=true:=⟨Try.f58,Try.func58,by kernel_rfl⟩
theorem qFM:∃fn,Try.prog.funcs[fid 34]?=some fn/\qdn Try.prog fid fn v34=true:=⟨Try.f17,Try.func17,by kernel_rfl⟩
theorem qFL:∃fn,Try.prog.funcs[fid 84]?=some fn/\qdn Try.prog fid fn v84=true:=⟨Try.f76,Try.func76,by kernel_rfl⟩
theorem qDm:∃fn,Try.prog.funcs[fid 133]?=some fn/\qdn Try.prog fid fn qBS=true:=⟨Try.f9,Try.func9,by kernel_rfl⟩
theorem qDl:∃fn,Try.prog.funcs[fid 146]?=some fn/\qdn Try.prog fid fn qzW=true:=⟨Try.f78,Try.func78,by kernel_rfl⟩
theorem qDk:∃fn,Try.prog.funcs[fid 147]?=some fn/\qdn Try.prog fid fn qBR=true:=⟨Try.f92,Try.func92,by kernel_rfl⟩
theorem qDj:∃fn,Try.prog.funcs[fid 150]?=some fn/\qdn Try.prog fid fn qBQ=true:=⟨Try.f77,Try.func77,by kernel_rfl⟩
theorem qDi:∃fn,Try.prog.funcs[fid 151]?=some fn/\qdn Try.prog fid fn qBP=true:=⟨Try.f57,Try.func57,by kernel_rfl⟩
theorem qDh:∃fn,Try.prog.funcs[fid 153]?=some fn/\qdn Try.prog fid fn qBO=true:=⟨Try.f15,Try.func15,by kernel_rfl⟩
theorem qDg:∃fn,Try.prog.funcs[fid 154]?=some fn/\qdn Try.prog fid fn qBN=true:=⟨Try.f59,Try.func59,by kernel_rfl⟩
theorem qDf:∃fn,Try.prog.funcs[fid 155]?=some fn/\qdn Try.prog fid fn qBM=true:=⟨Try.f49,Try.func49,by kernel_rfl⟩
theorem qDe:∃fn,Try.prog.funcs[fid 156]?=some fn/\qdn Try.prog fid fn qBL=true:=⟨Try.f47,Try.func47,by kernel_rfl⟩
theorem qDd:∃fn,Try.prog.funcs[fid 159]?=some fn/\qdn Try.prog fid fn qBK=true:=⟨Try.f54,Try.func54,by kernel_rfl⟩
theorem qDc:∃fn,Try.prog.funcs[fid 160]?=some fn/\qdn Try.prog fid fn qBJ=true:=⟨Try.f55,Try.func55,by kernel_rfl⟩
theorem qDb:∃fn,Try.prog.funcs[fid 161]?=some fn/\qdn Try.prog fid fn qBI=true:=⟨Try.f80,Try.func80,by kernel_rfl⟩
theorem qDa:∃fn,Try.prog.funcs[fid 162]?=some fn/\qdn Try.prog fid fn qBH=true:=⟨Try.f48,Try.func48,by kernel_rfl⟩
theorem qC9:∃fn,Try.prog.funcs[fid 163]?=some fn/\qdn Try.prog fid fn qBG=true:=⟨Try.f85,Try.func85,by kernel_rfl⟩
theorem qC8:∃fn,Try.prog.funcs[fid 164]?=some fn/\qdn Try.prog fid fn qyb=true:=⟨Try.f61,Try.func61,by kernel_rfl⟩
theorem qC7:∃fn,Try.prog.funcs[fid 165]?=some fn/\qdn Try.prog fid fn qzU=true:=⟨Try.f100,Try.func100,by kernel_rfl⟩
theorem qC6:∃fn,Try.prog.funcs[fid 166]?=some fn/\qdn Try.prog fid fn qBF=true:=⟨Try.f50,Try.func50,by kernel_rfl⟩
theorem qC5:∃fn,Try.prog.funcs[fid 169]?=some fn/\qdn Try.prog fid fn qGP=true:=⟨Try.f11,Try.func11,by kernel_rfl⟩
theorem qC4:∃fn,Try.prog.funcs[fid 170]?=some fn/\qdn Try.prog fid fn qya=true:=⟨Try.f52,Try.func52,by kernel_rfl⟩
theorem qC3:∃fn,Try.prog.funcs[fid 171]?=some fn/\qdn Try.prog fid fn qx9=true:=⟨Try.f99,Try.func99,by kernel_rfl⟩
theorem qC2:∃fn,Try.prog.funcs[fid 172]?=some fn/\qdn Try.prog fid fn qwf=true:=⟨Try.f118,Try.func118,by kernel_rfl⟩
theorem qC1:∃fn,Try.prog.funcs[fid 173]?=some fn/\qdn Try.prog fid fn qwe=true:=⟨Try.f119,Try.func119,by kernel_rfl⟩
theorem qC0:∃fn,Try.prog.funcs[fid 174]?=some fn/\qdn Try.prog fid fn qBE=true:=⟨Try.f132,Try.func132,by kernel_rfl⟩
theorem qCZ:∃fn,Try.prog.funcs[fid 175]?=some fn/\qdn Try.prog fid fn qBD=true:=⟨Try.f139,Try.func139,by kernel_rfl⟩
theorem qCY:∃fn,Try.prog.funcs[fid 189]?=some fn/\qdn Try.prog fid fn qwF=true:=⟨Try.f3,Try.func3,by kernel_rfl⟩
theorem qCX:∃fn,Try.prog.funcs[fid 190]?=some fn/\qdn Try.prog fid fn qx8=true:=⟨Try.f10,Try.func10,by kernel_rfl⟩
theorem qCW:∃fn,Try.prog.funcs[fid 191]?=some fn/\qdn Try.prog fid fn qBC=true:=⟨Try.f12,Try.func12,by kernel_rfl⟩
theorem qCV:∃fn,Try.prog.funcs[fid 192]?=some fn/\qdn Try.prog fid fn qwd=true:=⟨Try.f13,Try.func13,by kernel_rfl⟩
theorem qCU:∃fn,Try.prog.funcs[fid 193]?=some fn/\qdn Try.prog fid fn qwc=true:=⟨Try.f16,Try.func16,by kernel_rfl⟩
theorem qCT:∃fn,Try.prog.funcs[fid 194]?=some fn/\qdn Try.prog fid fn qx7=true:=⟨Try.f51,Try.func51,by kernel_rfl⟩
theorem qCS:∃fn,Try.prog.funcs[fid 195]?=some fn/\qdn Try.prog fid fn qrI=true:=⟨Try.f98,Try.func98,by kernel_rfl⟩
theorem qCR:∃fn,Try.prog.funcs[fid 196]?=some fn/\qdn Try.prog fid fn qBB=true:=⟨Try.f117,Try.func117,by kernel_rfl⟩
theorem qCQ:∃fn,Try.prog.funcs[fid 197]?=some fn/\qdn Try.prog fid fn qBA=true:=⟨Try.f62,Try.func62,by kernel_rfl⟩
theorem qlc:∀{l:List (Nat×VFn)} {k:Nat} {v:VFn},look l k=some v->(k,v)∈l
 | [],_,_,h=>by simp[look]at h
 |(a,u)::r,k,v,h=>by
  simp only[look]at h;split at h
  ·rename_i hk
   simp at h;subst h;subst hk;simp
  ·exact List.mem_cons_of_mem _ (qlc h)
theorem qxU:qxF.all (fun q=>qzf (qAy qEf q.1) q.2.code)=true:=by kernel_rfl
theorem qxE:∀q,q∈qxF->∃fn,Try.prog.funcs[fid q.1]?=some fn/\qdn Try.prog fid fn q.2=true:=
 List.forall_mem_cons.2 ⟨qHt,List.forall_mem_cons.2 ⟨qHs,List.forall_mem_cons.2 ⟨qHr,List.forall_mem_cons.2 ⟨qFQ,List.forall_mem_cons.2 ⟨qFP,List.forall_mem_cons.2 ⟨qFO,List.forall_mem_cons.2 ⟨qFN,List.forall_mem_cons.2 ⟨qFM,List.forall_mem_cons.2 ⟨qFL,List.forall_mem_cons.2 ⟨qDm,List.forall_mem_cons.2 ⟨qDl,List.forall_mem_cons.2 ⟨qDk,List.forall_mem_cons.2 ⟨qDj,List.forall_mem_cons.2 ⟨qDi,List.forall_mem_cons.2 ⟨qDh,List.forall_mem_cons.2 ⟨qDg,List.forall_mem_cons.2 ⟨qDf,List.forall_mem_cons.2 ⟨qDe,List.forall_mem_cons.2 ⟨qDd,List.forall_mem_cons.2 ⟨qDc,List.forall_mem_cons.2 ⟨qDb,List.forall_mem_cons.2 ⟨qDa,List.forall_mem_cons.2 ⟨qC9,List.forall_mem_cons.2 ⟨qC8,List.forall_mem_cons.2 ⟨qC7,List.forall_mem_cons.2 ⟨qC6,List.forall_mem_cons.2 ⟨qC4,List.forall_mem_cons.2 ⟨qC3,List.forall_mem_cons.2 ⟨qC2,List.forall_mem_cons.2 ⟨qC1,List.forall_mem_cons.2 ⟨qC0,List.forall_mem_cons.2 ⟨qCZ,List.forall_mem_cons.2 ⟨qCY,List.forall_mem_cons.2 ⟨qCX,List.forall_mem_cons.2 ⟨qCW,List.forall_mem_cons.2 ⟨qCV,List.forall_mem_cons.2 ⟨qCU,List.forall_mem_cons.2 ⟨qCT,List.forall_mem_cons.2 ⟨qCS,List.forall_mem_cons.2 ⟨qCR,List.forall_mem_cons.2 ⟨qCQ,List.forall_mem_nil _⟩⟩⟩⟩⟩⟩⟩⟩⟩⟩⟩⟩⟩⟩⟩⟩⟩⟩⟩⟩⟩⟩⟩⟩⟩⟩⟩⟩⟩⟩⟩⟩⟩⟩⟩⟩⟩⟩⟩⟩⟩
end Go.Proofs.Ytfiakfiocdfpbaa.VS
