/- The evaluator's code is the program's. -/
import Derived.Test.YtfiakfiocdfpbaaNat1
import Derived.Test.YtfiakfiocdfpbaaCode
import Derived.Test.YtfiakfiocdfpbaaChecked
import Derived.KernelRfl
set_option linter.unusedVariables false
namespace Go.Proofs.Ytfiakfiocdfpbaa.VS
open Go.Proofs
def fid:Nat->FuncId
 |3=>89
 |4=>14
 |6=>53
 |13=>107
 |14=>102
 |18=>123
 |19=>122
 |22=>67
 |23=>64
 |24=>104
 |25=>103
 |29=>56
 |30=>81
 |31=>60
 |33=>58
 |34=>17
 |38=>93
 |39=>96
 |47=>126
 |53=>136
 |54=>125
 |55=>133
 |56=>140
 |59=>106
 |60=>101
 |61=>120
 |62=>121
 |67=>44
 |68=>32
 |70=>20
 |71=>83
 |72=>82
 |73=>71
 |74=>110
 |75=>105
 |76=>86
 |77=>63
 |78=>65
 |79=>72
 |80=>21
 |81=>74
 |82=>66
 |83=>68
 |84=>76
 |85=>112
 |90=>46
 |91=>45
 |92=>94
 |93=>95
 |94=>114
 |95=>115
 |96=>116
 |97=>130
 |98=>97
 |102=>75
 |103=>25
 |104=>70
 |105=>108
 |106=>109
 |107=>124
 |108=>127
 |109=>128
 |110=>73
 |111=>111
 |112=>129
 |117=>23
 |118=>22
 |132=>8
 |133=>9
 |134=>31
 |135=>33
 |136=>34
 |137=>35
 |138=>36
 |139=>37
 |140=>38
 |141=>39
 |142=>41
 |143=>40
 |144=>42
 |145=>43
 |146=>78
 |147=>92
 |148=>90
 |149=>91
 |150=>77
 |151=>57
 |152=>88
 |153=>15
 |154=>59
 |155=>49
 |156=>47
 |157=>79
 |158=>113
 |159=>54
 |160=>55
 |161=>80
 |162=>48
 |163=>85
 |164=>61
 |165=>100
 |166=>50
 |167=>87
 |168=>84
 |169=>11
 |170=>52
 |171=>99
 |172=>118
 |173=>119
 |174=>132
 |175=>139
 |176=>7
 |177=>28
 |178=>26
 |179=>27
 |180=>69
 |189=>3
 |190=>10
 |191=>12
 |192=>13
 |193=>16
 |194=>51
 |195=>98
 |196=>117
 |197=>62
 |339=>30
 |340=>29
 |363=>6
 |364=>5
 |365=>24
 |366=>4
 |367=>18
 |368=>19
 |_=>0
theorem qTZ:∃fn,Try.prog.funcs[fid 3]?=some fn/\qbt Try.prog fid fn v3=true:=⟨Try.f89,Try.func89,by kernel_rfl⟩
theorem qTY:∃fn,Try.prog.funcs[fid 4]?=some fn/\qbt Try.prog fid fn v4=true:=⟨Try.f14,Try.func14,by kernel_rfl⟩
theorem qTX:∃fn,Try.prog.funcs[fid 6]?=some fn/\qbt Try.prog fid fn v6=true:=⟨Try.f53,Try.func53,by kernel_rfl⟩
theorem qRh:∃fn,Try.prog.funcs[fid 13]?=some fn/\qbt Try.prog fid fn v13=true:=⟨Try.f107,Try.func107,by kernel_rfl⟩
theorem qRg:∃fn,Try.prog.funcs[fid 14]?=some fn/\qbt Try.prog fid fn v14=true:=⟨Try.f102,Try.func102,by kernel_rfl⟩
theorem qRf:∃fn,Try.prog.funcs[fid 18]?=some fn/\qbt Try.prog fid fn v18=true:=⟨Try.f123,Try.func123,by kernel_rfl⟩
theorem qRe:∃fn,Try.prog.funcs[fid 19]?=some fn/\qbt Try.prog fid fn v19=true:=⟨Try.f122,Try.func122,by kernel_rfl⟩
theorem qRd:∃fn,Try.prog.funcs[fid 22]?=some fn/\qbt Try.prog fid fn v22=true:=⟨Try.f67,Try.func67,by kernel_rfl⟩
theorem qRc:∃fn,Try.prog.funcs[fid 23]?=some fn/\qbt Try.prog fid fn v23=true:=⟨Try.f64,Try.func64,by kernel_rfl⟩
theorem qRb:∃fn,Try.prog.funcs[fid 24]?=some fn/\qbt Try.prog fid fn v24=true:=⟨Try.f104,Try.func104,by kernel_rfl⟩
theorem qRa:∃fn,Try.prog.funcs[fid 25]?=some fn/\qbt Try.prog fid fn v25=true:=⟨Try.f103,Try.func103,by kernel_rfl⟩
theorem qQ9:∃fn,Try.prog.funcs[fid 29]?=some fn/\qbt Try.prog fid fn v29=true:=⟨Try.f56,Try.func56,by kernel_rfl⟩
theorem qQ8:∃fn,Try.prog.funcs[fid 30]?=some fn/\qbt Try.prog fid fn v30=true:=⟨Try.f81,Try.func81,by kernel_rfl⟩
theorem qQ7:∃fn,Try.prog.funcs[fid 31]?=some fn/\qbt Try.prog fid fn v31=true:=⟨Try.f60,Try.func60,by kernel_rfl⟩
theorem qQ6:∃fn,Try.prog.funcs[fid 33]?=some fn/\qbt Try.prog fid fn v33=true:=⟨Try.f58,Try.func58,by kernel_rfl⟩
theorem qQ5:∃fn,Try.prog.funcs[fid 34]?=some fn/\qbt Try.prog fid fn v34=true:=⟨Try.f17,Try.func17,by kernel_rfl⟩
theorem qQ4:∃fn,Try.prog.funcs[fid 38]?=some fn/\qbt Try.prog fid fn v38=true:=⟨Try.f93,Try.func93,by kernel_rfl⟩
theorem qQ3:∃fn,Try.prog.funcs[fid 39]?=some fn/\qbt Try.prog fid fn v39=true:=⟨Try.f96,Try.func96,by kernel_rfl⟩
theorem qQ2:∃fn,Try.prog.funcs[fid 59]?=some fn/\qbt Try.prog fid fn v59=true:=⟨Try.f106,Try.func106,by kernel_rfl⟩
theorem qQ1:∃fn,Try.prog.funcs[fid 60]?=some fn/\qbt Try.prog fid fn v60=true:=⟨Try.f101,Try.func101,by kernel_rfl⟩
theorem qQ0:∃fn,Try.prog.funcs[fid 61]?=some fn/\qbt Try.prog fid fn v61=true:=⟨Try.f120,Try.func120,by kernel_rfl⟩
theorem qQZ:∃fn,Try.prog.funcs[fid 62]?=some fn/\qbt Try.prog fid fn v62=true:=⟨Try.f121,Try.func121,by kernel_rfl⟩
theorem qQY:∃fn,Try.prog.funcs[fid 67]?=some fn/\qbt Try.prog fid fn v67=true:=⟨Try.f44,Try.func44,by kernel_rfl⟩
theorem qQX:∃fn,Try.prog.funcs[fid 68]?=some fn/\qbt Try.prog fid fn v68=true:=⟨Try.f32,Try.func32,by kernel_rfl⟩
theorem qQW:∃fn,Try.prog.funcs[fid 70]?=some fn/\qbt Try.prog fid fn v70=true:=⟨Try.f20,Try.func20,by kernel_rfl⟩
theorem qQV:∃fn,Try.prog.funcs[fid 71]?=some fn/\qbt Try.prog fid fn v71=true:=⟨Try.f83,Try.func83,by kernel_rfl⟩
theorem qQU:∃fn,Try.prog.funcs[fid 72]?=some fn/\qbt Try.prog fid fn v72=true:=⟨Try.f82,Try.func82,by kernel_rfl⟩
theorem qQT:∃fn,Try.prog.funcs[fid 73]?=some fn/\qbt Try.prog fid fn v73=true:=⟨Try.f71,Try.func71,by kernel_rfl⟩
theorem qQS:∃fn,Try.prog.funcs[fid 74]?=some fn/\qbt Try.prog fid fn v74=true:=⟨Try.f110,Try.func110,by kernel_rfl⟩
theorem qQR:∃fn,Try.prog.funcs[fid 75]?=some fn/\qbt Try.prog fid fn v75=true:=⟨Try.f105,Try.func105,by kernel_rfl⟩
theorem qQQ:∃fn,Try.prog.funcs[fid 76]?=some fn/\qbt Try.prog fid fn v76=true:=⟨Try.f86,Try.func86,by kernel_rfl⟩
theorem qQP:∃fn,Try.prog.funcs[fid 77]?=some fn/\qbt Try.prog fid fn v77=true:=⟨Try.f63,Try.func63,by kernel_rfl⟩
theorem qQO:∃fn,Try.prog.funcs[fid 78]?=some fn/\qbt Try.prog fid fn v78=true:=⟨Try.f65,Try.func65,by kernel_rfl⟩
theorem qQN:∃fn,Try.prog.funcs[fid 79]?=some fn/\qbt Try.prog fid fn v79=true:=⟨Try.f72,Try.func72,by kernel_rfl⟩
theorem qQM:∃fn,Try.prog.funcs[fid 80]?=some fn/\qbt Try.prog fid fn v80=true:=⟨Try.f21,Try.func21,by kernel_rfl⟩
theorem qQL:∃fn,Try.prog.funcs[fid 81]?=some fn/\qbt Try.prog fid fn v81=true:=⟨Try.f74,Try.func74,by kernel_rfl⟩
theorem qQK:∃fn,Try.prog.funcs[fid 82]?=some fn/\qbt Try.prog fid fn v82=true:=⟨Try.f66,Try.func66,by kernel_rfl⟩
theorem qQJ:∃fn,Try.prog.funcs[fid 83]?=some fn/\qbt Try.prog fid fn v83=true:=⟨Try.f68,Try.func68,by kernel_rfl⟩
theorem qQI:∃fn,Try.prog.funcs[fid 84]?=some fn/\qbt Try.prog fid fn v84=true:=⟨Try.f76,Try.func76,by kernel_rfl⟩
theorem qQH:∃fn,Try.prog.funcs[fid 85]?=some fn/\qbt Try.prog fid fn v85=true:=⟨Try.f112,Try.func112,by kernel_rfl⟩
theorem qQG:∃fn,Try.prog.funcs[fid 90]?=some fn/\qbt Try.prog fid fn v90=true:=⟨Try.f46,Try.func46,by kernel_rfl⟩
theorem qQF:∃fn,Try.prog.funcs[fid 91]?=some fn/\qbt Try.prog fid fn v91=true:=⟨Try.f45,Try.func45,by kernel_rfl⟩
theorem qQE:∃fn,Try.prog.funcs[fid 92]?=some fn/\qbt Try.prog fid fn v92=true:=⟨Try.f94,Try.func94,by kernel_rfl⟩
theorem qQD:∃fn,Try.prog.funcs[fid 98]?=some fn/\qbt Try.prog fid fn v98=true:=⟨Try.f97,Try.func97,by kernel_rfl⟩
theorem qNE:∃fn,Try.prog.funcs[fid 132]?=some fn/\qbt Try.prog fid fn qF8=true:=⟨Try.f8,Try.func8,by kernel_rfl⟩
theorem qND:∃fn,Try.prog.funcs[fid 133]?=some fn/\qbt Try.prog fid fn qK4=true:=⟨Try.f9,Try.func9,by kernel_rfl⟩
theorem qNC:∃fn,Try.prog.funcs[fid 134]?=some fn/\qbt Try.prog fid fn qK3=true:=⟨Try.f31,Try.func31,by kernel_rfl⟩
theorem qNB:∃fn,Try.prog.funcs[fid 135]?=some fn/\qbt Try.prog fid fn qK2=true:=⟨Try.f33,Try.func33,by kernel_rfl⟩
theorem qNA:∃fn,Try.prog.funcs[fid 136]?=some fn/\qbt Try.prog fid fn qK1=true:=⟨Try.f34,Try.func34,by kernel_rfl⟩
theorem qNz:∃fn,Try.prog.funcs[fid 137]?=some fn/\qbt Try.prog fid fn qD4=true:=⟨Try.f35,Try.func35,by kernel_rfl⟩
theorem qNy:∃fn,Try.prog.funcs[fid 138]?=some fn/\qbt Try.prog fid fn qK0=true:=⟨Try.f36,Try.func36,by kernel_rfl⟩
theorem qNx:∃fn,Try.prog.funcs[fid 139]?=some fn/\qbt Try.prog fid fn qKZ=true:=⟨Try.f37,Try.func37,by kernel_rfl⟩
theorem qNw:∃fn,Try.prog.funcs[fid 140]?=some fn/\qbt Try.prog fid fn qKY=true:=⟨Try.f38,Try.func38,by kernel_rfl⟩
theorem qNv:∃fn,Try.prog.funcs[fid 141]?=some fn/\qbt Try.prog fid fn qKX=true:=⟨Try.f39,Try.func39,by kernel_rfl⟩
theorem qNu:∃fn,Try.prog.funcs[fid 142]?=some fn/\qbt Try.prog fid fn qD3=true:=⟨Try.f41,Try.func41,by kernel_rfl⟩
theorem qNt:∃fn,Try.prog.funcs[fid 143]?=some fn/\qbt Try.prog fid fn qIt=true:=⟨Try.f40,Try.func40,by kernel_rfl⟩
theorem qNs:∃fn,Try.prog.funcs[fid 144]?=some fn/\qbt Try.prog fid fn qIs=true:=⟨Try.f42,Try.func42,by kernel_rfl⟩
theorem qNr:∃fn,Try.prog.funcs[fid 145]?=some fn/\qbt Try.prog fid fn qKW=true:=⟨Try.f43,Try.func43,by kernel_rfl⟩
theorem qNq:∃fn,Try.prog.funcs[fid 146]?=some fn/\qbt Try.prog fid fn qIr=true:=⟨Try.f78,Try.func78,by kernel_rfl⟩
theorem qNp:∃fn,Try.prog.funcs[fid 147]?=some fn/\qbt Try.prog fid fn qKV=true:=⟨Try.f92,Try.func92,by kernel_rfl⟩
theorem qNo:∃fn,Try.prog.funcs[fid 148]?=some fn/\qbt Try.prog fid fn qKU=true:=⟨Try.f90,Try.func90,by kernel_rfl⟩
theorem qNn:∃fn,Try.prog.funcs[fid 149]?=some fn/\qbt Try.prog fid fn qKT=true:=⟨Try.f91,Try.func91,by kernel_rfl⟩
theorem qNm:∃fn,Try.prog.funcs[fid 150]?=some fn/\qbt Try.prog fid fn qKS=true:=⟨Try.f77,Try.func77,by kernel_rfl⟩
theorem qNl:∃fn,Try.prog.funcs[fid 151]?=some fn/\qbt Try.prog fid fn qKR=true:=⟨Try.f57,Try.func57,by kernel_rfl⟩
theorem qNk:∃fn,Try.prog.funcs[fid 152]?=some fn/\qbt Try.prog fid fn qC5=true:=⟨Try.f88,Try.func88,by kernel_rfl⟩
theorem qNj:∃fn,Try.prog.funcs[fid 153]?=some fn/\qbt Try.prog fid fn qKQ=true:=⟨Try.f15,Try.func15,by kernel_rfl⟩
theorem qNi:∃fn,Try.prog.funcs[fid 154]?=some fn/\qbt Try.prog fid fn qKP=true:=⟨Try.f59,Try.func59,by kernel_rfl⟩
theorem qNh:∃fn,Try.prog.funcs[fid 155]?=some fn/\qbt Try.prog fid fn qKO=true:=⟨Try.f49,Try.func49,by kernel_rfl⟩
theorem qNg:∃fn,Try.prog.funcs[fid 156]?=some fn/\qbt Try.prog fid fn qKN=true:=⟨Try.f47,Try.func47,by kernel_rfl⟩
theorem qNf:∃fn,Try.prog.funcs[fid 157]?=some fn/\qbt Try.prog fid fn qyS=true:=⟨Try.f79,Try.func79,by kernel_rfl⟩
theorem qNe:∃fn,Try.prog.funcs[fid 158]?=some fn/\qbt Try.prog fid fn qKM=true:=⟨Try.f113,Try.func113,by kernel_rfl⟩
theorem qNd:∃fn,Try.prog.funcs[fid 159]?=some fn/\qbt Try.prog fid fn qKL=true:=⟨Try.f54,Try.func54,by kernel_rfl⟩
theorem qNc:∃fn,Try.prog.funcs[fid 160]?=some fn/\qbt Try.prog fid fn qKK=true:=⟨Try.f55,Try.func55,by kernel_rfl⟩
theorem qNb:∃fn,Try.prog.funcs[fid 161]?=some fn/\qbt Try.prog fid fn qKJ=true:=⟨Try.f80,Try.func80,by kernel_rfl⟩
theorem qNa:∃fn,Try.prog.funcs[fid 162]?=some fn/\qbt Try.prog fid fn qKI=true:=⟨Try.f48,Try.func48,by kernel_rfl⟩
theorem qM9:∃fn,Try.prog.funcs[fid 163]?=some fn/\qbt Try.prog fid fn qKH=true:=⟨Try.f85,Try.func85,by kernel_rfl⟩
theorem qM8:∃fn,Try.prog.funcs[fid 164]?=some fn/\qbt Try.prog fid fn v164=true:=⟨Try.f61,Try.func61,by kernel_rfl⟩
theorem qM7:∃fn,Try.prog.funcs[fid 165]?=some fn/\qbt Try.prog fid fn qIp=true:=⟨Try.f100,Try.func100,by kernel_rfl⟩
theorem qM6:∃fn,Try.prog.funcs[fid 166]?=some fn/\qbt Try.prog fid fn qKG=true:=⟨Try.f50,Try.func50,by kernel_rfl⟩
theorem qM5:∃fn,Try.prog.funcs[fid 167]?=some fn/\qbt Try.prog fid fn qKF=true:=⟨Try.f87,Try.func87,by kernel_rfl⟩
theorem qM4:∃fn,Try.prog.funcs[fid 168]?=some fn/\qbt Try.prog fid fn qC4=true:=⟨Try.f84,Try.func84,by kernel_rfl⟩
theorem qM3:∃fn,Try.prog.funcs[fid 169]?=some fn/\qbt Try.prog fid fn qSW=true:=⟨Try.f11,Try.func11,by kernel_rfl⟩
theorem qM2:∃fn,Try.prog.funcs[fid 170]?=some fn/\qbt Try.prog fid fn qF7=true:=⟨Try.f52,Try.func52,by kernel_rfl⟩
theorem qM1:∃fn,Try.prog.funcs[fid 171]?=some fn/\qbt Try.prog fid fn qF6=true:=⟨Try.f99,Try.func99,by kernel_rfl⟩
theorem qM0:∃fn,Try.prog.funcs[fid 172]?=some fn/\qbt Try.prog fid fn qC3=true:=⟨Try.f118,Try.func118,by kernel_rfl⟩
theorem qMZ:∃fn,Try.prog.funcs[fid 173]?=some fn/\qbt Try.prog fid fn qC2=true:=⟨Try.f119,Try.func119,by kernel_rfl⟩
theorem qMY:∃fn,Try.prog.funcs[fid 174]?=some fn/\qbt Try.prog fid fn qKE=true:=⟨Try.f132,Try.func132,by kernel_rfl⟩
theorem qMX:∃fn,Try.prog.funcs[fid 175]?=some fn/\qbt Try.prog fid fn qKD=true:=⟨Try.f139,Try.func139,by kernel_rfl⟩
theorem qon:∀{l:List (Nat×VFn)} {k:Nat} {v:VFn},look l k=some v->(k,v)∈l
 | [],_,_,h=>by simp[look]at h
 |(a,u)::r,k,v,h=>by
  simp only[look]at h;split at h
  ·rename_i hk
   simp at h;subst h;subst hk;simp
  ·exact List.mem_cons_of_mem _ (qon h)
theorem qFN:qFx.all (fun q=>qHI (qJs qOR q.1) q.2.code)=true:=by kernel_rfl
theorem qFw:∀q,q∈qFx->∃fn,Try.prog.funcs[fid q.1]?=some fn/\qbt Try.prog fid fn q.2=true:=
 List.forall_mem_cons.2 ⟨qTZ,List.forall_mem_cons.2 ⟨qTY,List.forall_mem_cons.2 ⟨qTX,List.forall_mem_cons.2 ⟨qRh,List.forall_mem_cons.2 ⟨qRg,List.forall_mem_cons.2 ⟨qRf,List.forall_mem_cons.2 ⟨qRe,List.forall_mem_cons.2 ⟨qRd,List.forall_mem_cons.2 ⟨qRc,List.forall_mem_cons.2 ⟨qRb,List.forall_mem_cons.2 ⟨qRa,List.forall_mem_cons.2 ⟨qQ9,List.forall_mem_cons.2 ⟨qQ8,List.forall_mem_cons.2 ⟨qQ7,List.forall_mem_cons.2 ⟨qQ6,List.forall_mem_cons.2 ⟨qQ5,List.forall_mem_cons.2 ⟨qQ4,List.forall_mem_cons.2 ⟨qQ3,List.forall_mem_cons.2 ⟨qQ2,List.forall_mem_cons.2 ⟨qQ1,List.forall_mem_cons.2 ⟨qQ0,List.forall_mem_cons.2 ⟨qQZ,List.forall_mem_cons.2 ⟨qQY,List.forall_mem_cons.2 ⟨qQX,List.forall_mem_cons.2 ⟨qQW,List.forall_mem_cons.2 ⟨qQV,List.forall_mem_cons.2 ⟨qQU,List.forall_mem_cons.2 ⟨qQT,List.forall_mem_cons.2 ⟨qQS,List.forall_mem_cons.2 ⟨qQR,List.forall_mem_cons.2 ⟨qQQ,List.forall_mem_cons.2 ⟨qQP,List.forall_mem_cons.2 ⟨qQO,List.forall_mem_cons.2 ⟨qQN,List.forall_mem_cons.2 ⟨qQM,List.forall_mem_cons.2 ⟨qQL,List.forall_mem_cons.2 ⟨qQK,List.forall_mem_cons.2 ⟨qQJ,List.forall_mem_cons.2 ⟨qQI,List.forall_mem_cons.2 ⟨qQH,List.forall_mem_cons.2 ⟨qQG,List.forall_mem_cons.2 ⟨qQF,List.forall_mem_cons.2 ⟨qQE,List.forall_mem_cons.2 ⟨qQD,List.forall_mem_cons.2 ⟨qNE,List.forall_mem_cons.2 ⟨qND,List.forall_mem_cons.2 ⟨qNC,List.forall_mem_cons.2 ⟨qNB,List.forall_mem_cons.2 ⟨qNA,List.forall_mem_cons.2 ⟨qNz,List.forall_mem_cons.2 ⟨qNy,List.forall_mem_cons.2 ⟨qNx,List.forall_mem_cons.2 ⟨qNw,List.forall_mem_cons.2 ⟨qNv,List.forall_mem_cons.2 ⟨qNu,List.forall_mem_cons.2 ⟨qNt,List.forall_mem_cons.2 ⟨qNs,List.forall_mem_cons.2 ⟨qNr,List.forall_mem_cons.2 ⟨qNq,List.forall_mem_cons.2 ⟨qNp,List.forall_mem_cons.2 ⟨qNo,List.forall_mem_cons.2 ⟨qNn,List.forall_mem_cons.2 ⟨qNm,List.forall_mem_cons.2 ⟨qNl,List.forall_mem_cons.2 ⟨qNk,List.forall_mem_cons.2 ⟨qNj,List.forall_mem_cons.2 ⟨qNi,List.forall_mem_cons.2 ⟨qNh,List.forall_mem_cons.2 ⟨qNg,List.forall_mem_cons.2 ⟨qNf,List.forall_mem_cons.2 ⟨qNe,List.forall_mem_cons.2 ⟨qNd,List.forall_mem_cons.2 ⟨qNc,List.forall_mem_cons.2 ⟨qNb,List.forall_mem_cons.2 ⟨qNa,List.forall_mem_cons.2 ⟨qM9,List.forall_mem_cons.2 ⟨qM8,List.forall_mem_cons.2 ⟨qM7,List.forall_mem_cons.2 ⟨qM6,List.forall_mem_cons.2 ⟨qM5,List.forall_mem_cons.2 ⟨qM4,List.forall_mem_cons.2 ⟨qM2,List.forall_mem_cons.2 ⟨qM1,List.forall_mem_cons.2 ⟨qM0,List.forall_mem_cons.2 ⟨qMZ,List.forall_mem_cons.2 ⟨qMY,List.forall_mem_cons.2 ⟨qMX,List.forall_mem_nil _⟩⟩⟩⟩⟩⟩⟩⟩⟩⟩⟩⟩⟩⟩⟩⟩⟩⟩⟩⟩⟩⟩⟩⟩⟩⟩⟩⟩⟩⟩⟩⟩⟩⟩⟩⟩⟩⟩⟩⟩⟩⟩⟩⟩⟩⟩⟩⟩⟩⟩⟩⟩⟩⟩⟩⟩⟩⟩⟩⟩⟩⟩⟩⟩⟩⟩⟩⟩⟩⟩⟩⟩⟩⟩⟩⟩⟩⟩⟩⟩⟩⟩⟩⟩⟩⟩⟩
end Go.Proofs.Ytfiakfiocdfpbaa.VS
