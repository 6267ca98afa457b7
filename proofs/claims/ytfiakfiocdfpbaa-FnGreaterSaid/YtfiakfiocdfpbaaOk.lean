/- The evaluator's code is the program's. -/
import Derived.Test.YtfiakfiocdfpbaaNat1
import Derived.Test.YtfiakfiocdfpbaaCode
import Derived.Test.YtfiakfiocdfpbaaChecked
import Derived.KernelRfl
set_option linter.unusedVariables false
namespace Go.Proofs.Ytfiakfiocdfpbaa.VS
open Go.Proofs
def fid:Nat->FuncId
 |3=>89
 |4=>14
 |6=>53
 |13=>107
 |14=>102
 |18=>123
 |19=>122
 |22=>67
 |23=>64
 |24=>104
 |25=>103
 |29=>56
 |30=>81
 |31=>60
 |33=>58
 |34=>17
 |38=>93
 |39=>96
 |47=>126
 |53=>136
 |54=>125
 |55=>133
 |56=>140
 |59=>106
 |60=>101
 |61=>120
 |62=>121
 |67=>44
 |68=>32
 |70=>20
 |71=>83
 |72=>82
 |73=>71
 |74=>110
 |75=>105
 |76=>86
 |77=>63
 |78=>65
 |79=>72
 |80=>21
 |81=>74
 |82=>66
 |83=>68
 |84=>76
 |85=>112
 |90=>46
 |91=>45
 |92=>94
 |93=>95
 |94=>114
 |95=>115
 |96=>116
 |97=>130
 |98=>97
 |102=>75
 |103=>25
 |104=>70
 |105=>108
 |106=>109
 |107=>124
 |108=>127
 |109=>128
 |110=>73
 |111=>111
 |112=>129
 |117=>23
 |118=>22
 |132=>8
 |133=>9
 |134=>31
 |135=>33
 |136=>34
 |137=>35
 |138=>36
 |139=>37
 |140=>38
 |141=>39
 |142=>41
 |143=>40
 |144=>42
 |145=>43
 |146=>78
 |147=>92
 |148=>90
 |149=>91
 |150=>77
 |151=>57
 |152=>88
 |153=>15
 |154=>59
 |155=>49
 |156=>47
 |157=>79
 |158=>113
 |159=>54
 |160=>55
 |161=>80
 |162=>48
 |163=>85
 |164=>61
 |165=>100
 |166=>50
 |167=>87
 |168=>84
 |169=>11
 |170=>52
 |171=>99
 |172=>118
 |173=>119
 |174=>132
 |175=>139
 |176=>7
 |177=>28
 |178=>26
 |179=>27
 |180=>69
 |189=>3
 |190=>10
 |191=>12
 |192=>13
 |193=>16
 |194=>51
 |195=>98
 |196=>117
 |197=>62
 |339=>30
 |340=>29
 |363=>6
 |364=>5
 |365=>24
 |366=>4
 |367=>18
 |368=>19
 |_=>0
theorem qLK:∃fn,Try.prog.funcs[fid 3]?=some fn/\qbH Try.prog fid fn v3=true:=⟨Try.f89,Try.func89,by kernel_rfl⟩
theorem qLJ:∃fn,Try.prog.funcs[fid 4]?=some fn/\qbH Try.prog fid fn v4=true:=⟨Try.f14,Try.func14,by kernel_rfl⟩
theorem qLI:∃fn,Try.prog.funcs[fid 6]?=some fn/\qbH Try.prog fid fn v6=true:=⟨Try.f53,Try.func53,by kernel_rfl⟩
theorem qJd:∃fn,Try.prog.funcs[fid 13]?=some fn/\qbH Try.prog fid fn v13=true:=⟨Try.f107,Try.func107,by kernel_rfl⟩
theorem qJc:∃fn,Try.prog.funcs[fid 14]?=some fn/\qbH Try.prog fid fn v14=true:=⟨Try.f102,Try.func102,by kernel_rfl⟩
theorem qJb:∃fn,Try.prog.funcs[fid 18]?=some fn/\qbH Try.prog fid fn v18=true:=⟨Try.f123,Try.func123,by kernel_rfl⟩
theorem qJa:∃fn,Try.prog.funcs[fid 19]?=some fn/\qbH Try.prog fid fn v19=true:=⟨Try.f122,Try.func122,by kernel_rfl⟩
theorem qI9:∃fn,Try.prog.funcs[fid 22]?=some fn/\qbH Try.prog fid fn v22=true:=⟨Try.f67,Try.func67,by kernel_rfl⟩
theorem qI8:∃fn,Try.prog.funcs[fid 23]?=some fn/\qbH Try.prog fid fn v23=true:=⟨Try.f64,Try.func64,by kernel_rfl⟩
theorem qI7:∃fn,Try.prog.funcs[fid 24]?=some fn/\qbH Try.prog fid fn v24=true:=⟨Try.f104,Try.func104,by kernel_rfl⟩
theorem qI6:∃fn,Try.prog.funcs[fid 25]?=some fn/\qbH Try.prog fid fn v25=true:=⟨Try.f103,Try.func103,by kernel_rfl⟩
theorem qI5:∃fn,Try.prog.funcs[fid 29]?=some fn/\qbH Try.prog fid fn v29=true:=⟨Try.f56,Try.func56,by kernel_rfl⟩
theorem qI4:∃fn,Try.prog.funcs[fid 30]?=some fn/\qbH Try.prog fid fn v30=true:=⟨Try.f81,Try.func81,by kernel_rfl⟩
theorem qI3:∃fn,Try.prog.funcs[fid 31]?=some fn/\qbH Try.prog fid fn v31=true:=⟨Try.f60,Try.func60,by kernel_rfl⟩
theorem qI2:∃fn,Try.prog.funcs[fid 33]?=some fn/\qbH Try.prog fid fn v33=true:=⟨Try.f58,Try.func58,by kernel_rfl⟩
theorem qI1:∃fn,Try.prog.funcs[fid 34]?=some fn/\qbH Try.prog fid fn v34=true:=⟨Try.f17,Try.func17,by kernel_rfl⟩
theorem qI0:∃fn,Try.prog.funcs[fid 47]?=some fn/\qbH Try.prog fid fn v47=true:=⟨Try.f126,Try.func126,by kernel_rfl⟩
theorem qIZ:∃fn,Try.prog.funcs[fid 53]?=some fn/\qbH Try.prog fid fn v53=true:=⟨Try.f136,Try.func136,by kernel_rfl⟩
theorem qIY:∃fn,Try.prog.funcs[fid 54]?=some fn/\qbH Try.prog fid fn v54=true:=⟨Try.f125,Try.func125,by kernel_rfl⟩
theorem qIX:∃fn,Try.prog.funcs[fid 55]?=some fn/\qbH Try.prog fid fn v55=true:=⟨Try.f133,Try.func133,by kernel_rfl⟩
theorem qIW:∃fn,Try.prog.funcs[fid 56]?=some fn/\qbH Try.prog fid fn v56=true:=⟨Try.f140,Try.func140,by kernel_rfl⟩
theorem qIV:∃fn,Try.prog.funcs[fid 59]?=some fn/\qbH Try.prog fid fn v59=true:=⟨Try.f106,Try.func106,by kernel_rfl⟩
theorem qIU:∃fn,Try.prog.funcs[fid 60]?=some fn/\qbH Try.prog fid fn v60=true:=⟨Try.f101,Try.func101,by kernel_rfl⟩
theorem qIT:∃fn,Try.prog.funcs[fid 61]?=some fn/\qbH Try.prog fid fn v61=true:=⟨Try.f120,Try.func120,by kernel_rfl⟩
theorem qIS:∃fn,Try.prog.funcs[fid 62]?=some fn/\qbH Try.prog fid fn v62=true:=⟨Try.f121,Try.func121,by kernel_rfl⟩
theorem qIR:∃fn,Try.prog.funcs[fid 70]?=some fn/\qbH Try.prog fid fn v70=true:=⟨Try.f20,Try.func20,by kernel_rfl⟩
theorem qIQ:∃fn,Try.prog.funcs[fid 73]?=some fn/\qbH Try.prog fid fn v73=true:=⟨Try.f71,Try.func71,by kernel_rfl⟩
theorem qIP:∃fn,Try.prog.funcs[fid 74]?=some fn/\qbH Try.prog fid fn v74=true:=⟨Try.f110,Try.func110,by kernel_rfl⟩
theorem qIO:∃fn,Try.prog.funcs[fid 75]?=some fn/\qbH Try.prog fid fn v75=true:=⟨Try.f105,Try.func105,by kernel_rfl⟩
theorem qIN:∃fn,Try.prog.funcs[fid 77]?=some fn/\qbH Try.prog fid fn v77=true:=⟨Try.f63,Try.func63,by kernel_rfl⟩
theorem qIM:∃fn,Try.prog.funcs[fid 78]?=some fn/\qbH Try.prog fid fn v78=true:=⟨Try.f65,Try.func65,by kernel_rfl⟩
theorem qIL:∃fn,Try.prog.funcs[fid 79]?=some fn/\qbH Try.prog fid fn v79=true:=⟨Try.f72,Try.func72,by kernel_rfl⟩
theorem qIK:∃fn,Try.prog.funcs[fid 80]?=some fn/\qbH Try.prog fid fn v80=true:=⟨Try.f21,Try.func21,by kernel_rfl⟩
theorem qIJ:∃fn,Try.prog.funcs[fid 81]?=some fn/\qbH Try.prog fid fn v81=true:=⟨Try.f74,Try.func74,by kernel_rfl⟩
theorem qII:∃fn,Try.prog.funcs[fid 82]?=some fn/\qbH Try.prog fid fn v82=true:=⟨Try.f66,Try.func66,by kernel_rfl⟩
theorem qIH:∃fn,Try.prog.funcs[fid 83]?=some fn/\qbH Try.prog fid fn v83=true:=⟨Try.f68,Try.func68,by kernel_rfl⟩
theorem qIG:∃fn,Try.prog.funcs[fid 84]?=some fn/\qbH Try.prog fid fn v84=true:=⟨Try.f76,Try.func76,by kernel_rfl⟩
theorem qIF:∃fn,Try.prog.funcs[fid 85]?=some fn/\qbH Try.prog fid fn v85=true:=⟨Try.f112,Try.func112,by kernel_rfl⟩
theorem qFV:∃fn,Try.prog.funcs[fid 102]?=some fn/\qbH Try.prog fid fn qDj=true:=⟨Try.f75,Try.func75,by kernel_rfl⟩
theorem qFU:∃fn,Try.prog.funcs[fid 103]?=some fn/\qbH Try.prog fid fn qDi=true:=⟨Try.f25,Try.func25,by kernel_rfl⟩
theorem qFT:∃fn,Try.prog.funcs[fid 104]?=some fn/\qbH Try.prog fid fn qDh=true:=⟨Try.f70,Try.func70,by kernel_rfl⟩
theorem qFS:∃fn,Try.prog.funcs[fid 105]?=some fn/\qbH Try.prog fid fn qBm=true:=⟨Try.f108,Try.func108,by kernel_rfl⟩
theorem qFR:∃fn,Try.prog.funcs[fid 106]?=some fn/\qbH Try.prog fid fn qG5=true:=⟨Try.f109,Try.func109,by kernel_rfl⟩
theorem qFQ:∃fn,Try.prog.funcs[fid 107]?=some fn/\qbH Try.prog fid fn qG4=true:=⟨Try.f124,Try.func124,by kernel_rfl⟩
theorem qFP:∃fn,Try.prog.funcs[fid 108]?=some fn/\qbH Try.prog fid fn qzl=true:=⟨Try.f127,Try.func127,by kernel_rfl⟩
theorem qFO:∃fn,Try.prog.funcs[fid 110]?=some fn/\qbH Try.prog fid fn qDg=true:=⟨Try.f73,Try.func73,by kernel_rfl⟩
theorem qFN:∃fn,Try.prog.funcs[fid 111]?=some fn/\qbH Try.prog fid fn qxS=true:=⟨Try.f111,Try.func111,by kernel_rfl⟩
theorem qFM:∃fn,Try.prog.funcs[fid 112]?=some fn/\qbH Try.prog fid fn qzk=true:=⟨Try.f129,Try.func129,by kernel_rfl⟩
theorem qFL:∃fn,Try.prog.funcs[fid 117]?=some fn/\qbH Try.prog fid fn qtG=true:=⟨Try.f23,Try.func23,by kernel_rfl⟩
theorem qFK:∃fn,Try.prog.funcs[fid 118]?=some fn/\qbH Try.prog fid fn qtF=true:=⟨Try.f22,Try.func22,by kernel_rfl⟩
theorem qFJ:∃fn,Try.prog.funcs[fid 133]?=some fn/\qbH Try.prog fid fn qDf=true:=⟨Try.f9,Try.func9,by kernel_rfl⟩
theorem qFI:∃fn,Try.prog.funcs[fid 146]?=some fn/\qbH Try.prog fid fn qBl=true:=⟨Try.f78,Try.func78,by kernel_rfl⟩
theorem qFH:∃fn,Try.prog.funcs[fid 147]?=some fn/\qbH Try.prog fid fn qDe=true:=⟨Try.f92,Try.func92,by kernel_rfl⟩
theorem qFG:∃fn,Try.prog.funcs[fid 150]?=some fn/\qbH Try.prog fid fn qDd=true:=⟨Try.f77,Try.func77,by kernel_rfl⟩
theorem qFF:∃fn,Try.prog.funcs[fid 151]?=some fn/\qbH Try.prog fid fn qDc=true:=⟨Try.f57,Try.func57,by kernel_rfl⟩
theorem qFE:∃fn,Try.prog.funcs[fid 153]?=some fn/\qbH Try.prog fid fn qDb=true:=⟨Try.f15,Try.func15,by kernel_rfl⟩
theorem qFD:∃fn,Try.prog.funcs[fid 154]?=some fn/\qbH Try.prog fid fn qDa=true:=⟨Try.f59,Try.func59,by kernel_rfl⟩
theorem qFC:∃fn,Try.prog.funcs[fid 155]?=some fn/\qbH Try.prog fid fn qC9=true:=⟨Try.f49,Try.func49,by kernel_rfl⟩
theorem qFB:∃fn,Try.prog.funcs[fid 156]?=some fn/\qbH Try.prog fid fn qC8=true:=⟨Try.f47,Try.func47,by kernel_rfl⟩
theorem qFA:∃fn,Try.prog.funcs[fid 159]?=some fn/\qbH Try.prog fid fn qC7=true:=⟨Try.f54,Try.func54,by kernel_rfl⟩
theorem qFz:∃fn,Try.prog.funcs[fid 160]?=some fn/\qbH Try.prog fid fn qC6=true:=⟨Try.f55,Try.func55,by kernel_rfl⟩
theorem qFy:∃fn,Try.prog.funcs[fid 161]?=some fn/\qbH Try.prog fid fn qC5=true:=⟨Try.f80,Try.func80,by kernel_rfl⟩
theorem qFx:∃fn,Try.prog.funcs[fid 162]?=some fn/\qbH Try.prog fid fn qC4=true:=⟨Try.f48,Try.func48,by kernel_rfl⟩
theorem qFw:∃fn,Try.prog.funcs[fid 163]?=some fn/\qbH Try.prog fid fn qC3=true:=⟨Try.f85,Try.func85,by kernel_rfl⟩
theorem qFv:∃fn,Try.prog.funcs[fid 164]?=some fn/\qbH Try.prog fid fn v164=true:=⟨Try.f61,Try.func61,by kernel_rfl⟩
theorem qFu:∃fn,Try.prog.funcs[fid 165]?=some fn/\qbH Try.prog fid fn qBj=true:=⟨Try.f100,Try.func100,by kernel_rfl⟩
theorem qFt:∃fn,Try.prog.funcs[fid 166]?=some fn/\qbH Try.prog fid fn qC2=true:=⟨Try.f50,Try.func50,by kernel_rfl⟩
theorem qFs:∃fn,Try.prog.funcs[fid 177]?=some fn/\qbH Try.prog fid fn qC1=true:=⟨Try.f28,Try.func28,by kernel_rfl⟩
theorem qFr:∃fn,Try.prog.funcs[fid 178]?=some fn/\qbH Try.prog fid fn qxR=true:=⟨Try.f26,Try.func26,by kernel_rfl⟩
theorem qFq:∃fn,Try.prog.funcs[fid 179]?=some fn/\qbH Try.prog fid fn qxQ=true:=⟨Try.f27,Try.func27,by kernel_rfl⟩
theorem qFp:∃fn,Try.prog.funcs[fid 180]?=some fn/\qbH Try.prog fid fn qw0=true:=⟨Try.f69,Try.func69,by kernel_rfl⟩
theorem qFo:∃fn,Try.prog.funcs[fid 339]?=some fn/\qbH Try.prog fid fn qBh=true:=⟨Try.f30,Try.func30,by kernel_rfl⟩
theorem qFn:∃fn,Try.prog.funcs[fid 340]?=some fn/\qbH Try.prog fid fn qzj=true:=⟨Try.f29,Try.func29,by kernel_rfl⟩
theorem qFm:∃fn,Try.prog.funcs[fid 363]?=some fn/\qbH Try.prog fid fn qBg=true:=⟨Try.f6,Try.func6,by kernel_rfl⟩
theorem qge:∀{l:List (Nat×VFn)} {k:Nat} {v:VFn},look l k=some v->(k,v)∈l
 | [],_,_,h=>by simp[look]at h
 |(a,u)::r,k,v,h=>by
  simp only[look]at h;split at h
  ·rename_i hk
   simp at h;subst h;subst hk;simp
  ·exact List.mem_cons_of_mem _ (qge h)
theorem qqn:qr9.all (fun q=>qAz (qu0 qy7 q.1) q.2.code)=true:=by kernel_rfl
theorem qqg:∀q,q∈qr9->∃fn,Try.prog.funcs[fid q.1]?=some fn/\qbH Try.prog fid fn q.2=true:=
 List.forall_mem_cons.2 ⟨qLK,List.forall_mem_cons.2 ⟨qLJ,List.forall_mem_cons.2 ⟨qLI,List.forall_mem_cons.2 ⟨qJd,List.forall_mem_cons.2 ⟨qJc,List.forall_mem_cons.2 ⟨qJb,List.forall_mem_cons.2 ⟨qJa,List.forall_mem_cons.2 ⟨qI9,List.forall_mem_cons.2 ⟨qI8,List.forall_mem_cons.2 ⟨qI7,List.forall_mem_cons.2 ⟨qI6,List.forall_mem_cons.2 ⟨qI5,List.forall_mem_cons.2 ⟨qI4,List.forall_mem_cons.2 ⟨qI3,List.forall_mem_cons.2 ⟨qI2,List.forall_mem_cons.2 ⟨qI1,List.forall_mem_cons.2 ⟨qI0,List.forall_mem_cons.2 ⟨qIZ,List.forall_mem_cons.2 ⟨qIY,List.forall_mem_cons.2 ⟨qIX,List.forall_mem_cons.2 ⟨qIW,List.forall_mem_cons.2 ⟨qIV,List.forall_mem_cons.2 ⟨qIU,List.forall_mem_cons.2 ⟨qIT,List.forall_mem_cons.2 ⟨qIS,List.forall_mem_cons.2 ⟨qIR,List.forall_mem_cons.2 ⟨qIQ,List.forall_mem_cons.2 ⟨qIP,List.forall_mem_cons.2 ⟨qIO,List.forall_mem_cons.2 ⟨qIN,List.forall_mem_cons.2 ⟨qIM,List.forall_mem_cons.2 ⟨qIL,List.forall_mem_cons.2 ⟨qIK,List.forall_mem_cons.2 ⟨qIJ,List.forall_mem_cons.2 ⟨qII,List.forall_mem_cons.2 ⟨qIH,List.forall_mem_cons.2 ⟨qIG,List.forall_mem_cons.2 ⟨qIF,List.forall_mem_cons.2 ⟨qFV,List.forall_mem_cons.2 ⟨qFU,List.forall_mem_cons.2 ⟨qFT,List.forall_mem_cons.2 ⟨qFS,List.forall_mem_cons.2 ⟨qFR,List.forall_mem_cons.2 ⟨qFQ,List.forall_mem_cons.2 ⟨qFP,List.forall_mem_cons.2 ⟨qFO,List.forall_mem_cons.2 ⟨qFN,List.forall_mem_cons.2 ⟨qFM,List.forall_mem_cons.2 ⟨qFL,List.forall_mem_cons.2 ⟨qFK,List.forall_mem_cons.2 ⟨qFJ,List.forall_mem_cons.2 ⟨qFI,List.forall_mem_cons.2 ⟨qFH,List.forall_mem_cons.2 ⟨qFG,List.forall_mem_cons.2 ⟨qFF,List.forall_mem_cons.2 ⟨qFE,List.forall_mem_cons.2 ⟨qFD,List.forall_mem_cons.2 ⟨qFC,List.forall_mem_cons.2 ⟨qFB,List.forall_mem_cons.2 ⟨qFA,List.forall_mem_cons.2 ⟨qFz,List.forall_mem_cons.2 ⟨qFy,List.forall_mem_cons.2 ⟨qFx,List.forall_mem_cons.2 ⟨qFw,List.forall_mem_cons.2 ⟨qFv,List.forall_mem_cons.2 ⟨qFu,List.forall_mem_cons.2 ⟨qFt,List.forall_mem_cons.2 ⟨qFs,List.forall_mem_cons.2 ⟨qFr,List.forall_mem_cons.2 ⟨qFq,List.forall_mem_cons.2 ⟨qFp,List.forall_mem_cons.2 ⟨qFo,List.forall_mem_cons.2 ⟨qFn,List.forall_mem_cons.2 ⟨qFm,List.forall_mem_nil _⟩⟩⟩⟩⟩⟩⟩⟩⟩⟩⟩⟩⟩⟩⟩⟩⟩⟩⟩⟩⟩⟩⟩⟩⟩⟩⟩⟩⟩⟩⟩⟩⟩⟩⟩⟩⟩⟩⟩⟩⟩⟩⟩⟩⟩⟩⟩⟩⟩⟩⟩⟩⟩⟩⟩⟩⟩⟩⟩⟩⟩⟩⟩⟩⟩⟩⟩⟩⟩⟩⟩⟩⟩⟩
theorem qvU:EnvOK Try.prog fid ⟨look qr9,fun _=>none,fun _=>none,qu0 qy7⟩:=⟨fun k vf _ h=>qqg (k,vf) (qge h),fun k f h=>by simp at h,fun k sf h=>by simp at h,by kernel_rfl,fun k vf h=>List.all_eq_true.1 qqn (k,vf) (qge h)⟩
end Go.Proofs.Ytfiakfiocdfpbaa.VS
