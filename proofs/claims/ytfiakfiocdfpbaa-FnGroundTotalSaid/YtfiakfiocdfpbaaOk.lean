/- The evaluator's code is the program's. -/
import Derived.Test.YtfiakfiocdfpbaaNat1
import Derived.Test.YtfiakfiocdfpbaaCode
import Derived.Test.YtfiakfiocdfpbaaChecked
import Derived.KernelRfl
set_option linter.unusedVariables false
namespace Go.Proofs.Ytfiakfiocdfpbaa.VS
open Go.Proofs
def fid:Nat->FuncId
 |3=>89
 |4=>14
 |6=>53
 |13=>107
 |14=>102
 |18=>123
 |19=>122
 |22=>67
 |23=>64
 |24=>104
 |25=>103
 |29=>56
 |30=>81
 |31=>60
 |33=>58
 |34=>17
 |38=>93
 |39=>96
 |47=>126
 |53=>136
 |54=>125
 |55=>133
 |56=>140
 |59=>106
 |60=>101
 |61=>120
 |62=>121
 |67=>44
 |68=>32
 |70=>20
 |71=>83
 |72=>82
 |73=>71
 |74=>110
 |75=>105
 |76=>86
 |77=>63
 |78=>65
 |79=>72
 |80=>21
 |81=>74
 |82=>66
 |83=>68
 |84=>76
 |85=>112
 |90=>46
 |91=>45
 |92=>94
 |93=>95
 |94=>114
 |95=>115
 |96=>116
 |97=>130
 |98=>97
 |102=>75
 |103=>25
 |104=>70
 |105=>108
 |106=>109
 |107=>124
 |108=>127
 |109=>128
 |110=>73
 |111=>111
 |112=>129
 |117=>23
 |118=>22
 |132=>8
 |133=>9
 |134=>31
 |135=>33
 |136=>34
 |137=>35
 |138=>36
 |139=>37
 |140=>38
 |141=>39
 |142=>41
 |143=>40
 |144=>42
 |145=>43
 |146=>78
 |147=>92
 |148=>90
 |149=>91
 |150=>77
 |151=>57
 |152=>88
 |153=>15
 |154=>59
 |155=>49
 |156=>47
 |157=>79
 |158=>113
 |159=>54
 |160=>55
 |161=>80
 |162=>48
 |163=>85
 |164=>61
 |165=>100
 |166=>50
 |167=>87
 |168=>84
 |169=>11
 |170=>52
 |171=>99
 |172=>118
 |173=>119
 |174=>132
 |175=>139
 |176=>7
 |177=>28
 |178=>26
 |179=>27
 |180=>69
 |189=>3
 |190=>10
 |191=>12
 |192=>13
 |193=>16
 |194=>51
 |195=>98
 |196=>117
 |197=>62
 |339=>30
 |340=>29
 |363=>6
 |364=>5
 |365=>24
 |366=>4
 |367=>18
 |368=>19
 |_=>0
theorem qKT:∃fn,Try.prog.funcs[fid 3]?=some fn/\qbR Try.prog fid fn v3=true:=⟨Try.f89,Try.func89,by kernel_rfl⟩
theorem qKS:∃fn,Try.prog.funcs[fid 4]?=some fn/\qbR Try.prog fid fn v4=true:=⟨Try.f14,Try.func14,by kernel_rfl⟩
theorem qKR:∃fn,Try.prog.funcs[fid 6]?=some fn/\qbR Try.prog fid fn v6=true:=⟨Try.f53,Try.func53,by kernel_rfl⟩
theorem qIp:∃fn,Try.prog.funcs[fid 13]?=some fn/\qbR Try.prog fid fn v13=true:=⟨Try.f107,Try.func107,by kernel_rfl⟩
theorem qIo:∃fn,Try.prog.funcs[fid 14]?=some fn/\qbR Try.prog fid fn v14=true:=⟨Try.f102,Try.func102,by kernel_rfl⟩
theorem qIn:∃fn,Try.prog.funcs[fid 18]?=some fn/\qbR Try.prog fid fn v18=true:=⟨Try.f123,Try.func123,by kernel_rfl⟩
theorem qIm:∃fn,Try.prog.funcs[fid 19]?=some fn/\qbR Try.prog fid fn v19=true:=⟨Try.f122,Try.func122,by kernel_rfl⟩
theorem qIl:∃fn,Try.prog.funcs[fid 22]?=some fn/\qbR Try.prog fid fn v22=true:=⟨Try.f67,Try.func67,by kernel_rfl⟩
theorem qIk:∃fn,Try.prog.funcs[fid 23]?=some fn/\qbR Try.prog fid fn v23=true:=⟨Try.f64,Try.func64,by kernel_rfl⟩
theorem qIj:∃fn,Try.prog.funcs[fid 24]?=some fn/\qbR Try.prog fid fn v24=true:=⟨Try.f104,Try.func104,by kernel_rfl⟩
theorem qIi:∃fn,Try.prog.funcs[fid 25]?=some fn/\qbR Try.prog fid fn v25=true:=⟨Try.f103,Try.func103,by kernel_rfl⟩
theorem qIh:∃fn,Try.prog.funcs[fid 29]?=some fn/\qbR Try.prog fid fn v29=true:=⟨Try.f56,Try.func56,by kernel_rfl⟩
theorem qIg:∃fn,Try.prog.funcs[fid 30]?=some fn/\qbR Try.prog fid fn v30=true:=⟨Try.f81,Try.func81,by kernel_rfl⟩
theorem qIf:∃fn,Try.prog.funcs[fid 31]?=some fn/\qbR Try.prog fid fn v31=true:=⟨Try.f60,Try.func60,by kernel_rfl⟩
theorem qIe:∃fn,Try.prog.funcs[fid 33]?=some fn/\qbR Try.prog fid fn v33=true:=⟨Try.f58,Try.func58,by kernel_rfl⟩
theorem qId:∃fn,Try.prog.funcs[fid 34]?=some fn/\qbR Try.prog fid fn v34=true:=⟨Try.f17,Try.func17,by kernel_rfl⟩
theorem qIc:∃fn,Try.prog.funcs[fid 47]?=some fn/\qbR Try.prog fid fn v47=true:=⟨Try.f126,Try.func126,by kernel_rfl⟩
theorem qIb:∃fn,Try.prog.funcs[fid 53]?=some fn/\qbR Try.prog fid fn v53=true:=⟨Try.f136,Try.func136,by kernel_rfl⟩
theorem qIa:∃fn,Try.prog.funcs[fid 54]?=some fn/\qbR Try.prog fid fn v54=true:=⟨Try.f125,Try.func125,by kernel_rfl⟩
theorem qH9:∃fn,Try.prog.funcs[fid 55]?=some fn/\qbR Try.prog fid fn v55=true:=⟨Try.f133,Try.func133,by kernel_rfl⟩
theorem qH8:∃fn,Try.prog.funcs[fid 56]?=some fn/\qbR Try.prog fid fn v56=true:=⟨Try.f140,Try.func140,by kernel_rfl⟩
theorem qH7:∃fn,Try.prog.funcs[fid 59]?=some fn/\qbR Try.prog fid fn v59=true:=⟨Try.f106,Try.func106,by kernel_rfl⟩
theorem qH6:∃fn,Try.prog.funcs[fid 60]?=some fn/\qbR Try.prog fid fn v60=true:=⟨Try.f101,Try.func101,by kernel_rfl⟩
theorem qH5:∃fn,Try.prog.funcs[fid 61]?=some fn/\qbR Try.prog fid fn v61=true:=⟨Try.f120,Try.func120,by kernel_rfl⟩
theorem qH4:∃fn,Try.prog.funcs[fid 62]?=some fn/\qbR Try.prog fid fn v62=true:=⟨Try.f121,Try.func121,by kernel_rfl⟩
theorem qH3:∃fn,Try.prog.funcs[fid 70]?=some fn/\qbR Try.prog fid fn v70=true:=⟨Try.f20,Try.func20,by kernel_rfl⟩
theorem qH2:∃fn,Try.prog.funcs[fid 73]?=some fn/\qbR Try.prog fid fn v73=true:=⟨Try.f71,Try.func71,by kernel_rfl⟩
theorem qH1:∃fn,Try.prog.funcs[fid 74]?=some fn/\qbR Try.prog fid fn v74=true:=⟨Try.f110,Try.func110,by kernel_rfl⟩
theorem qH0:∃fn,Try.prog.funcs[fid 75]?=some fn/\qbR Try.prog fid fn v75=true:=⟨Try.f105,Try.func105,by kernel_rfl⟩
theorem qHZ:∃fn,Try.prog.funcs[fid 77]?=some fn/\qbR Try.prog fid fn v77=true:=⟨Try.f63,Try.func63,by kernel_rfl⟩
theorem qHY:∃fn,Try.prog.funcs[fid 78]?=some fn/\qbR Try.prog fid fn v78=true:=⟨Try.f65,Try.func65,by kernel_rfl⟩
theorem qHX:∃fn,Try.prog.funcs[fid 79]?=some fn/\qbR Try.prog fid fn v79=true:=⟨Try.f72,Try.func72,by kernel_rfl⟩
theorem qHW:∃fn,Try.prog.funcs[fid 80]?=some fn/\qbR Try.prog fid fn v80=true:=⟨Try.f21,Try.func21,by kernel_rfl⟩
theorem qHV:∃fn,Try.prog.funcs[fid 81]?=some fn/\qbR Try.prog fid fn v81=true:=⟨Try.f74,Try.func74,by kernel_rfl⟩
theorem qHU:∃fn,Try.prog.funcs[fid 82]?=some fn/\qbR Try.prog fid fn v82=true:=⟨Try.f66,Try.func66,by kernel_rfl⟩
theorem qHT:∃fn,Try.prog.funcs[fid 83]?=some fn/\qbR Try.prog fid fn v83=true:=⟨Try.f68,Try.func68,by kernel_rfl⟩
theorem qHS:∃fn,Try.prog.funcs[fid 84]?=some fn/\qbR Try.prog fid fn v84=true:=⟨Try.f76,Try.func76,by kernel_rfl⟩
theorem qHR:∃fn,Try.prog.funcs[fid 85]?=some fn/\qbR Try.prog fid fn v85=true:=⟨Try.f112,Try.func112,by kernel_rfl⟩
theorem qFb:∃fn,Try.prog.funcs[fid 102]?=some fn/\qbR Try.prog fid fn qCC=true:=⟨Try.f75,Try.func75,by kernel_rfl⟩
theorem qFa:∃fn,Try.prog.funcs[fid 103]?=some fn/\qbR Try.prog fid fn qCB=true:=⟨Try.f25,Try.func25,by kernel_rfl⟩
theorem qE9:∃fn,Try.prog.funcs[fid 104]?=some fn/\qbR Try.prog fid fn qCA=true:=⟨Try.f70,Try.func70,by kernel_rfl⟩
theorem qE8:∃fn,Try.prog.funcs[fid 105]?=some fn/\qbR Try.prog fid fn qAI=true:=⟨Try.f108,Try.func108,by kernel_rfl⟩
theorem qE7:∃fn,Try.prog.funcs[fid 106]?=some fn/\qbR Try.prog fid fn qGl=true:=⟨Try.f109,Try.func109,by kernel_rfl⟩
theorem qE6:∃fn,Try.prog.funcs[fid 107]?=some fn/\qbR Try.prog fid fn qGk=true:=⟨Try.f124,Try.func124,by kernel_rfl⟩
theorem qE5:∃fn,Try.prog.funcs[fid 108]?=some fn/\qbR Try.prog fid fn qyO=true:=⟨Try.f127,Try.func127,by kernel_rfl⟩
theorem qE4:∃fn,Try.prog.funcs[fid 110]?=some fn/\qbR Try.prog fid fn qCz=true:=⟨Try.f73,Try.func73,by kernel_rfl⟩
theorem qE3:∃fn,Try.prog.funcs[fid 111]?=some fn/\qbR Try.prog fid fn qxj=true:=⟨Try.f111,Try.func111,by kernel_rfl⟩
theorem qE2:∃fn,Try.prog.funcs[fid 112]?=some fn/\qbR Try.prog fid fn qyN=true:=⟨Try.f129,Try.func129,by kernel_rfl⟩
theorem qE1:∃fn,Try.prog.funcs[fid 117]?=some fn/\qbR Try.prog fid fn qtr=true:=⟨Try.f23,Try.func23,by kernel_rfl⟩
theorem qE0:∃fn,Try.prog.funcs[fid 118]?=some fn/\qbR Try.prog fid fn qtq=true:=⟨Try.f22,Try.func22,by kernel_rfl⟩
theorem qEZ:∃fn,Try.prog.funcs[fid 133]?=some fn/\qbR Try.prog fid fn qCy=true:=⟨Try.f9,Try.func9,by kernel_rfl⟩
theorem qEY:∃fn,Try.prog.funcs[fid 146]?=some fn/\qbR Try.prog fid fn qAH=true:=⟨Try.f78,Try.func78,by kernel_rfl⟩
theorem qEX:∃fn,Try.prog.funcs[fid 147]?=some fn/\qbR Try.prog fid fn qCx=true:=⟨Try.f92,Try.func92,by kernel_rfl⟩
theorem qEW:∃fn,Try.prog.funcs[fid 153]?=some fn/\qbR Try.prog fid fn qCw=true:=⟨Try.f15,Try.func15,by kernel_rfl⟩
theorem qEV:∃fn,Try.prog.funcs[fid 154]?=some fn/\qbR Try.prog fid fn qCv=true:=⟨Try.f59,Try.func59,by kernel_rfl⟩
theorem qEU:∃fn,Try.prog.funcs[fid 155]?=some fn/\qbR Try.prog fid fn qCu=true:=⟨Try.f49,Try.func49,by kernel_rfl⟩
theorem qET:∃fn,Try.prog.funcs[fid 156]?=some fn/\qbR Try.prog fid fn qCt=true:=⟨Try.f47,Try.func47,by kernel_rfl⟩
theorem qES:∃fn,Try.prog.funcs[fid 159]?=some fn/\qbR Try.prog fid fn qCs=true:=⟨Try.f54,Try.func54,by kernel_rfl⟩
theorem qER:∃fn,Try.prog.funcs[fid 160]?=some fn/\qbR Try.prog fid fn qCr=true:=⟨Try.f55,Try.func55,by kernel_rfl⟩
theorem qEQ:∃fn,Try.prog.funcs[fid 161]?=some fn/\qbR Try.prog fid fn qCq=true:=⟨Try.f80,Try.func80,by kernel_rfl⟩
theorem qEP:∃fn,Try.prog.funcs[fid 162]?=some fn/\qbR Try.prog fid fn qCp=true:=⟨Try.f48,Try.func48,by kernel_rfl⟩
theorem qEO:∃fn,Try.prog.funcs[fid 163]?=some fn/\qbR Try.prog fid fn qCo=true:=⟨Try.f85,Try.func85,by kernel_rfl⟩
theorem qEN:∃fn,Try.prog.funcs[fid 164]?=some fn/\qbR Try.prog fid fn v164=true:=⟨Try.f61,Try.func61,by kernel_rfl⟩
theorem qEM:∃fn,Try.prog.funcs[fid 165]?=some fn/\qbR Try.prog fid fn qAF=true:=⟨Try.f100,Try.func100,by kernel_rfl⟩
theorem qEL:∃fn,Try.prog.funcs[fid 166]?=some fn/\qbR Try.prog fid fn qCn=true:=⟨Try.f50,Try.func50,by kernel_rfl⟩
theorem qEK:∃fn,Try.prog.funcs[fid 178]?=some fn/\qbR Try.prog fid fn qxi=true:=⟨Try.f26,Try.func26,by kernel_rfl⟩
theorem qEJ:∃fn,Try.prog.funcs[fid 179]?=some fn/\qbR Try.prog fid fn qxh=true:=⟨Try.f27,Try.func27,by kernel_rfl⟩
theorem qEI:∃fn,Try.prog.funcs[fid 180]?=some fn/\qbR Try.prog fid fn qwr=true:=⟨Try.f69,Try.func69,by kernel_rfl⟩
theorem qEH:∃fn,Try.prog.funcs[fid 364]?=some fn/\qbR Try.prog fid fn qyM=true:=⟨Try.f5,Try.func5,by kernel_rfl⟩
theorem qEG:∃fn,Try.prog.funcs[fid 365]?=some fn/\qbR Try.prog fid fn qCm=true:=⟨Try.f24,Try.func24,by kernel_rfl⟩
theorem qgg:∀{l:List (Nat×VFn)} {k:Nat} {v:VFn},look l k=some v->(k,v)∈l
 | [],_,_,h=>by simp[look]at h
 |(a,u)::r,k,v,h=>by
  simp only[look]at h;split at h
  ·rename_i hk
   simp at h;subst h;subst hk;simp
  ·exact List.mem_cons_of_mem _ (qgg h)
theorem qqe:qrY.all (fun q=>qzX (qur qyz q.1) q.2.code)=true:=by kernel_rfl
theorem qp7:∀q,q∈qrY->∃fn,Try.prog.funcs[fid q.1]?=some fn/\qbR Try.prog fid fn q.2=true:=
 List.forall_mem_cons.2 ⟨qKT,List.forall_mem_cons.2 ⟨qKS,List.forall_mem_cons.2 ⟨qKR,List.forall_mem_cons.2 ⟨qIp,List.forall_mem_cons.2 ⟨qIo,List.forall_mem_cons.2 ⟨qIn,List.forall_mem_cons.2 ⟨qIm,List.forall_mem_cons.2 ⟨qIl,List.forall_mem_cons.2 ⟨qIk,List.forall_mem_cons.2 ⟨qIj,List.forall_mem_cons.2 ⟨qIi,List.forall_mem_cons.2 ⟨qIh,List.forall_mem_cons.2 ⟨qIg,List.forall_mem_cons.2 ⟨qIf,List.forall_mem_cons.2 ⟨qIe,List.forall_mem_cons.2 ⟨qId,List.forall_mem_cons.2 ⟨qIc,List.forall_mem_cons.2 ⟨qIb,List.forall_mem_cons.2 ⟨qIa,List.forall_mem_cons.2 ⟨qH9,List.forall_mem_cons.2 ⟨qH8,List.forall_mem_cons.2 ⟨qH7,List.forall_mem_cons.2 ⟨qH6,List.forall_mem_cons.2 ⟨qH5,List.forall_mem_cons.2 ⟨qH4,List.forall_mem_cons.2 ⟨qH3,List.forall_mem_cons.2 ⟨qH2,List.forall_mem_cons.2 ⟨qH1,List.forall_mem_cons.2 ⟨qH0,List.forall_mem_cons.2 ⟨qHZ,List.forall_mem_cons.2 ⟨qHY,List.forall_mem_cons.2 ⟨qHX,List.forall_mem_cons.2 ⟨qHW,List.forall_mem_cons.2 ⟨qHV,List.forall_mem_cons.2 ⟨qHU,List.forall_mem_cons.2 ⟨qHT,List.forall_mem_cons.2 ⟨qHS,List.forall_mem_cons.2 ⟨qHR,List.forall_mem_cons.2 ⟨qFb,List.forall_mem_cons.2 ⟨qFa,List.forall_mem_cons.2 ⟨qE9,List.forall_mem_cons.2 ⟨qE8,List.forall_mem_cons.2 ⟨qE7,List.forall_mem_cons.2 ⟨qE6,List.forall_mem_cons.2 ⟨qE5,List.forall_mem_cons.2 ⟨qE4,List.forall_mem_cons.2 ⟨qE3,List.forall_mem_cons.2 ⟨qE2,List.forall_mem_cons.2 ⟨qE1,List.forall_mem_cons.2 ⟨qE0,List.forall_mem_cons.2 ⟨qEZ,List.forall_mem_cons.2 ⟨qEY,List.forall_mem_cons.2 ⟨qEX,List.forall_mem_cons.2 ⟨qEW,List.forall_mem_cons.2 ⟨qEV,List.forall_mem_cons.2 ⟨qEU,List.forall_mem_cons.2 ⟨qET,List.forall_mem_cons.2 ⟨qES,List.forall_mem_cons.2 ⟨qER,List.forall_mem_cons.2 ⟨qEQ,List.forall_mem_cons.2 ⟨qEP,List.forall_mem_cons.2 ⟨qEO,List.forall_mem_cons.2 ⟨qEN,List.forall_mem_cons.2 ⟨qEM,List.forall_mem_cons.2 ⟨qEL,List.forall_mem_cons.2 ⟨qEK,List.forall_mem_cons.2 ⟨qEJ,List.forall_mem_cons.2 ⟨qEI,List.forall_mem_cons.2 ⟨qEH,List.forall_mem_cons.2 ⟨qEG,List.forall_mem_nil _⟩⟩⟩⟩⟩⟩⟩⟩⟩⟩⟩⟩⟩⟩⟩⟩⟩⟩⟩⟩⟩⟩⟩⟩⟩⟩⟩⟩⟩⟩⟩⟩⟩⟩⟩⟩⟩⟩⟩⟩⟩⟩⟩⟩⟩⟩⟩⟩⟩⟩⟩⟩⟩⟩⟩⟩⟩⟩⟩⟩⟩⟩⟩⟩⟩⟩⟩⟩⟩⟩
theorem qvl:EnvOK Try.prog fid ⟨look qrY,fun _=>none,fun _=>none,qur qyz⟩:=⟨fun k vf _ h=>qp7 (k,vf) (qgg h),fun k f h=>by simp at h,fun k sf h=>by simp at h,by kernel_rfl,fun k vf h=>List.all_eq_true.1 qqe (k,vf) (qgg h)⟩
end Go.Proofs.Ytfiakfiocdfpbaa.VS
