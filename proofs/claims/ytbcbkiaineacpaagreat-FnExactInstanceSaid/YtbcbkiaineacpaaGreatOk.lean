/- The evaluator's code is the program's. -/
import Derived.Test.YtbcbkiaineacpaaGreatNat1
import Derived.Test.YtbcbkiaineacpaaGreatCode
import Derived.Test.YtbcbkiaineacpaaGreatChecked
import Derived.KernelRfl
set_option linter.unusedVariables false
namespace Go.Proofs.YtbcbkiaineacpaaGreat.VS
open Go.Proofs
def fid:Nat->FuncId
 |1=>7
 |2=>10
 |3=>51
 |4=>87
 |5=>13
 |6=>105
 |7=>31
 |8=>29
 |9=>27
 |11=>6
 |12=>9
 |13=>66
 |14=>78
 |15=>12
 |16=>28
 |17=>26
 |18=>104
 |19=>103
 |20=>30
 |22=>44
 |23=>55
 |24=>80
 |25=>57
 |29=>82
 |30=>79
 |31=>67
 |33=>53
 |34=>96
 |59=>65
 |60=>77
 |61=>101
 |62=>102
 |69=>16
 |70=>39
 |75=>81
 |76=>112
 |77=>54
 |78=>56
 |79=>83
 |80=>36
 |82=>43
 |83=>45
 |84=>68
 |86=>32
 |145=>52
 |146=>70
 |147=>76
 |148=>92
 |150=>88
 |151=>106
 |153=>97
 |154=>117
 |164=>98
 |169=>116
 |170=>120
 |171=>122
 |172=>124
 |173=>125
 |174=>126
 |175=>127
 |192=>95
 |193=>73
 |197=>99
 |242=>23
 |243=>17
 |244=>34
 |245=>24
 |246=>25
 |249=>46
 |250=>47
 |259=>100
 |260=>75
 |261=>69
 |265=>59
 |266=>62
 |269=>84
 |281=>110
 |282=>93
 |283=>111
 |284=>91
 |285=>109
 |286=>108
 |288=>61
 |289=>85
 |290=>86
 |291=>20
 |292=>35
 |293=>19
 |294=>33
 |305=>5
 |306=>21
 |307=>22
 |308=>18
 |309=>37
 |310=>38
 |311=>48
 |312=>49
 |313=>50
 |314=>71
 |315=>72
 |316=>74
 |317=>40
 |318=>41
 |319=>42
 |320=>60
 |321=>63
 |322=>64
 |323=>94
 |324=>113
 |325=>115
 |326=>114
 |327=>89
 |328=>90
 |329=>107
 |330=>58
 |335=>11
 |336=>15
 |369=>4
 |370=>14
 |371=>3
 |372=>8
 |_=>0
theorem qTD:∃fn,Tryz.prog.funcs[fid 1]?=some fn/\qa6 Tryz.prog fid fn v1=true:=⟨Tryz.f7,Tryz.func7,by kernel_rfl⟩
theorem qTC:∃fn,Tryz.prog.funcs[fid 2]?=some fn/\qa6 Tryz.prog fid fn v2=true:=⟨Tryz.f10,Tryz.func10,by kernel_rfl⟩
theorem qTB:∃fn,Tryz.prog.funcs[fid 3]?=some fn/\qa6 Tryz.prog fid fn v3=true:=⟨Tryz.f51,Tryz.func51,by kernel_rfl⟩
theorem qTA:∃fn,Tryz.prog.funcs[fid 4]?=some fn/\qa6 Tryz.prog fid fn v4=true:=⟨Tryz.f87,Tryz.func87,by kernel_rfl⟩
theorem qTz:∃fn,Tryz.prog.funcs[fid 5]?=some fn/\qa6 Tryz.prog fid fn v5=true:=⟨Tryz.f13,Tryz.func13,by kernel_rfl⟩
theorem qTy:∃fn,Tryz.prog.funcs[fid 6]?=some fn/\qa6 Tryz.prog fid fn v6=true:=⟨Tryz.f105,Tryz.func105,by kernel_rfl⟩
theorem qTx:∃fn,Tryz.prog.funcs[fid 7]?=some fn/\qa6 Tryz.prog fid fn v7=true:=⟨Tryz.f31,Tryz.func31,by kernel_rfl⟩
theorem qTw:∃fn,Tryz.prog.funcs[fid 8]?=some fn/\qa6 Tryz.prog fid fn v8=true:=⟨Tryz.f29,Tryz.func29,by kernel_rfl⟩
theorem qTv:∃fn,Tryz.prog.funcs[fid 9]?=some fn/\qa6 Tryz.prog fid fn v9=true:=⟨Tryz.f27,Tryz.func27,by kernel_rfl⟩
theorem qRb:∃fn,Tryz.prog.funcs[fid 11]?=some fn/\qa6 Tryz.prog fid fn v11=true:=⟨Tryz.f6,Tryz.func6,by kernel_rfl⟩
theorem qRa:∃fn,Tryz.prog.funcs[fid 12]?=some fn/\qa6 Tryz.prog fid fn v12=true:=⟨Tryz.f9,Tryz.func9,by kernel_rfl⟩
theorem qQ9:∃fn,Tryz.prog.funcs[fid 13]?=some fn/\qa6 Tryz.prog fid fn v13=true:=⟨Tryz.f66,Tryz.func66,by kernel_rfl⟩
theorem qQ8:∃fn,Tryz.prog.funcs[fid 14]?=some fn/\qa6 Tryz.prog fid fn v14=true:=⟨Tryz.f78,Tryz.func78,by kernel_rfl⟩
theorem qQ7:∃fn,Tryz.prog.funcs[fid 15]?=some fn/\qa6 Tryz.prog fid fn v15=true:=⟨Tryz.f12,Tryz.func12,by kernel_rfl⟩
theorem qQ6:∃fn,Tryz.prog.funcs[fid 16]?=some fn/\qa6 Tryz.prog fid fn v16=true:=⟨Tryz.f28,Tryz.func28,by kernel_rfl⟩
theorem qQ5:∃fn,Tryz.prog.funcs[fid 17]?=some fn/\qa6 Tryz.prog fid fn v17=true:=⟨Tryz.f26,Tryz.func26,by kernel_rfl⟩
theorem qQ4:∃fn,Tryz.prog.funcs[fid 18]?=some fn/\qa6 Tryz.prog fid fn v18=true:=⟨Tryz.f104,Tryz.func104,by kernel_rfl⟩
theorem qQ3:∃fn,Tryz.prog.funcs[fid 19]?=some fn/\qa6 Tryz.prog fid fn v19=true:=⟨Tryz.f103,Tryz.func103,by kernel_rfl⟩
theorem qQ2:∃fn,Tryz.prog.funcs[fid 20]?=some fn/\qa6 Tryz.prog fid fn v20=true:=⟨Tryz.f30,Tryz.func30,by kernel_rfl⟩
theorem qQ1:∃fn,Tryz.prog.funcs[fid 22]?=some fn/\qa6 Tryz.prog fid fn v22=true:=⟨Tryz.f44,Tryz.func44,by kernel_rfl⟩
theorem qQ0:∃fn,Tryz.prog.funcs[fid 23]?=some fn/\qa6 Tryz.prog fid fn v23=true:=⟨Tryz.f55,Tryz.func55,by kernel_rfl⟩
theorem qQZ:∃fn,Tryz.prog.funcs[fid 24]?=some fn/\qa6 Tryz.prog fid fn v24=true:=⟨Tryz.f80,Tryz.func80,by kernel_rfl⟩
theorem qQY:∃fn,Tryz.prog.funcs[fid 25]?=some fn/\qa6 Tryz.prog fid fn v25=true:=⟨Tryz.f57,Tryz.func57,by kernel_rfl⟩
theorem qQX:∃fn,Tryz.prog.funcs[fid 29]?=some fn/\qa6 Tryz.prog fid fn v29=true:=⟨Tryz.f82,Tryz.func82,by kernel_rfl⟩
theorem qQW:∃fn,Tryz.prog.funcs[fid 30]?=some fn/\qa6 Tryz.prog fid fn v30=true:=⟨Tryz.f79,Tryz.func79,by kernel_rfl⟩
theorem qQV:∃fn,Tryz.prog.funcs[fid 31]?=some fn/\qa6 Tryz.prog fid fn v31=true:=⟨Tryz.f67,Tryz.func67,by kernel_rfl⟩
theorem qQU:∃fn,Tryz.prog.funcs[fid 33]?=some fn/\qa6 Tryz.prog fid fn v33=true:=⟨Tryz.f53,Tryz.func53,by kernel_rfl⟩
theorem qQT:∃fn,Tryz.prog.funcs[fid 34]?=some fn/\qa6 Tryz.prog fid fn v34=true:=⟨Tryz.f96,Tryz.func96,by kernel_rfl⟩
theorem qQS:∃fn,Tryz.prog.funcs[fid 59]?=some fn/\qa6 Tryz.prog fid fn v59=true:=⟨Tryz.f65,Tryz.func65,by kernel_rfl⟩
theorem qQR:∃fn,Tryz.prog.funcs[fid 60]?=some fn/\qa6 Tryz.prog fid fn v60=true:=⟨Tryz.f77,Tryz.func77,by kernel_rfl⟩
theorem qQQ:∃fn,Tryz.prog.funcs[fid 61]?=some fn/\qa6 Tryz.prog fid fn v61=true:=⟨Tryz.f101,Tryz.func101,by kernel_rfl⟩
theorem qQP:∃fn,Tryz.prog.funcs[fid 62]?=some fn/\qa6 Tryz.prog fid fn v62=true:=⟨Tryz.f102,Tryz.func102,by kernel_rfl⟩
theorem qQO:∃fn,Tryz.prog.funcs[fid 70]?=some fn/\qa6 Tryz.prog fid fn v70=true:=⟨Tryz.f39,Tryz.func39,by kernel_rfl⟩
theorem qQN:∃fn,Tryz.prog.funcs[fid 75]?=some fn/\qa6 Tryz.prog fid fn v75=true:=⟨Tryz.f81,Tryz.func81,by kernel_rfl⟩
theorem qQM:∃fn,Tryz.prog.funcs[fid 77]?=some fn/\qa6 Tryz.prog fid fn v77=true:=⟨Tryz.f54,Tryz.func54,by kernel_rfl⟩
theorem qQL:∃fn,Tryz.prog.funcs[fid 78]?=some fn/\qa6 Tryz.prog fid fn v78=true:=⟨Tryz.f56,Tryz.func56,by kernel_rfl⟩
theorem qQK:∃fn,Tryz.prog.funcs[fid 79]?=some fn/\qa6 Tryz.prog fid fn v79=true:=⟨Tryz.f83,Tryz.func83,by kernel_rfl⟩
theorem qQJ:∃fn,Tryz.prog.funcs[fid 80]?=some fn/\qa6 Tryz.prog fid fn v80=true:=⟨Tryz.f36,Tryz.func36,by kernel_rfl⟩
theorem qQI:∃fn,Tryz.prog.funcs[fid 82]?=some fn/\qa6 Tryz.prog fid fn v82=true:=⟨Tryz.f43,Tryz.func43,by kernel_rfl⟩
theorem qQH:∃fn,Tryz.prog.funcs[fid 83]?=some fn/\qa6 Tryz.prog fid fn v83=true:=⟨Tryz.f45,Tryz.func45,by kernel_rfl⟩
theorem qQG:∃fn,Tryz.prog.funcs[fid 84]?=some fn/\qa6 Tryz.prog fid fn v84=true:=⟨Tryz.f68,Tryz.func68,by kernel_rfl⟩
theorem qOo:∃fn,Tryz.prog.funcs[fid 145]?=some fn/\qa6 Tryz.prog fid fn qMd=true:=⟨Tryz.f52,Tryz.func52,by kernel_rfl⟩
theorem qOn:∃fn,Tryz.prog.funcs[fid 146]?=some fn/\qa6 Tryz.prog fid fn qLc=true:=⟨Tryz.f70,Tryz.func70,by kernel_rfl⟩
theorem qOm:∃fn,Tryz.prog.funcs[fid 147]?=some fn/\qa6 Tryz.prog fid fn qMc=true:=⟨Tryz.f76,Tryz.func76,by kernel_rfl⟩
theorem qOl:∃fn,Tryz.prog.funcs[fid 148]?=some fn/\qa6 Tryz.prog fid fn qMb=true:=⟨Tryz.f92,Tryz.func92,by kernel_rfl⟩
theorem qOk:∃fn,Tryz.prog.funcs[fid 150]?=some fn/\qa6 Tryz.prog fid fn qMa=true:=⟨Tryz.f88,Tryz.func88,by kernel_rfl⟩
theorem qOj:∃fn,Tryz.prog.funcs[fid 151]?=some fn/\qa6 Tryz.prog fid fn qL9=true:=⟨Tryz.f106,Tryz.func106,by kernel_rfl⟩
theorem qOi:∃fn,Tryz.prog.funcs[fid 153]?=some fn/\qa6 Tryz.prog fid fn qL8=true:=⟨Tryz.f97,Tryz.func97,by kernel_rfl⟩
theorem qOh:∃fn,Tryz.prog.funcs[fid 154]?=some fn/\qa6 Tryz.prog fid fn qL7=true:=⟨Tryz.f117,Tryz.func117,by kernel_rfl⟩
theorem qOg:∃fn,Tryz.prog.funcs[fid 164]?=some fn/\qa6 Tryz.prog fid fn qL6=true:=⟨Tryz.f98,Tryz.func98,by kernel_rfl⟩
theorem qOf:∃fn,Tryz.prog.funcs[fid 169]?=some fn/\qa6 Tryz.prog fid fn qSd=true:=⟨Tryz.f116,Tryz.func116,by kernel_rfl⟩
theorem qOe:∃fn,Tryz.prog.funcs[fid 170]?=some fn/\qa6 Tryz.prog fid fn qIN=true:=⟨Tryz.f120,Tryz.func120,by kernel_rfl⟩
theorem qOd:∃fn,Tryz.prog.funcs[fid 171]?=some fn/\qa6 Tryz.prog fid fn qIM=true:=⟨Tryz.f122,Tryz.func122,by kernel_rfl⟩
theorem qOc:∃fn,Tryz.prog.funcs[fid 172]?=some fn/\qa6 Tryz.prog fid fn qEW=true:=⟨Tryz.f124,Tryz.func124,by kernel_rfl⟩
theorem qOb:∃fn,Tryz.prog.funcs[fid 173]?=some fn/\qa6 Tryz.prog fid fn qEV=true:=⟨Tryz.f125,Tryz.func125,by kernel_rfl⟩
theorem qOa:∃fn,Tryz.prog.funcs[fid 174]?=some fn/\qa6 Tryz.prog fid fn qL5=true:=⟨Tryz.f126,Tryz.func126,by kernel_rfl⟩
theorem qN9:∃fn,Tryz.prog.funcs[fid 175]?=some fn/\qa6 Tryz.prog fid fn qL4=true:=⟨Tryz.f127,Tryz.func127,by kernel_rfl⟩
theorem qN8:∃fn,Tryz.prog.funcs[fid 192]?=some fn/\qa6 Tryz.prog fid fn qEU=true:=⟨Tryz.f95,Tryz.func95,by kernel_rfl⟩
theorem qN7:∃fn,Tryz.prog.funcs[fid 193]?=some fn/\qa6 Tryz.prog fid fn qET=true:=⟨Tryz.f73,Tryz.func73,by kernel_rfl⟩
theorem qN6:∃fn,Tryz.prog.funcs[fid 197]?=some fn/\qa6 Tryz.prog fid fn qL3=true:=⟨Tryz.f99,Tryz.func99,by kernel_rfl⟩
theorem qN5:∃fn,Tryz.prog.funcs[fid 249]?=some fn/\qa6 Tryz.prog fid fn qLb=true:=⟨Tryz.f46,Tryz.func46,by kernel_rfl⟩
theorem qN4:∃fn,Tryz.prog.funcs[fid 250]?=some fn/\qa6 Tryz.prog fid fn qLa=true:=⟨Tryz.f47,Tryz.func47,by kernel_rfl⟩
theorem qN3:∃fn,Tryz.prog.funcs[fid 259]?=some fn/\qa6 Tryz.prog fid fn qK9=true:=⟨Tryz.f100,Tryz.func100,by kernel_rfl⟩
theorem qN2:∃fn,Tryz.prog.funcs[fid 260]?=some fn/\qa6 Tryz.prog fid fn qL2=true:=⟨Tryz.f75,Tryz.func75,by kernel_rfl⟩
theorem qN1:∃fn,Tryz.prog.funcs[fid 261]?=some fn/\qa6 Tryz.prog fid fn qIL=true:=⟨Tryz.f69,Tryz.func69,by kernel_rfl⟩
theorem qN0:∃fn,Tryz.prog.funcs[fid 265]?=some fn/\qa6 Tryz.prog fid fn qL1=true:=⟨Tryz.f59,Tryz.func59,by kernel_rfl⟩
theorem qNZ:∃fn,Tryz.prog.funcs[fid 266]?=some fn/\qa6 Tryz.prog fid fn qK8=true:=⟨Tryz.f62,Tryz.func62,by kernel_rfl⟩
theorem qNY:∃fn,Tryz.prog.funcs[fid 269]?=some fn/\qa6 Tryz.prog fid fn qK7=true:=⟨Tryz.f84,Tryz.func84,by kernel_rfl⟩
theorem qNX:∃fn,Tryz.prog.funcs[fid 281]?=some fn/\qa6 Tryz.prog fid fn qK6=true:=⟨Tryz.f110,Tryz.func110,by kernel_rfl⟩
theorem qNW:∃fn,Tryz.prog.funcs[fid 282]?=some fn/\qa6 Tryz.prog fid fn qK5=true:=⟨Tryz.f93,Tryz.func93,by kernel_rfl⟩
theorem qNV:∃fn,Tryz.prog.funcs[fid 283]?=some fn/\qa6 Tryz.prog fid fn qL0=true:=⟨Tryz.f111,Tryz.func111,by kernel_rfl⟩
theorem qNU:∃fn,Tryz.prog.funcs[fid 288]?=some fn/\qa6 Tryz.prog fid fn qLZ=true:=⟨Tryz.f61,Tryz.func61,by kernel_rfl⟩
theorem qNT:∃fn,Tryz.prog.funcs[fid 289]?=some fn/\qa6 Tryz.prog fid fn qIK=true:=⟨Tryz.f85,Tryz.func85,by kernel_rfl⟩
theorem qNS:∃fn,Tryz.prog.funcs[fid 290]?=some fn/\qa6 Tryz.prog fid fn qK4=true:=⟨Tryz.f86,Tryz.func86,by kernel_rfl⟩
theorem qNR:∃fn,Tryz.prog.funcs[fid 306]?=some fn/\qa6 Tryz.prog fid fn qD3=true:=⟨Tryz.f21,Tryz.func21,by kernel_rfl⟩
theorem qNQ:∃fn,Tryz.prog.funcs[fid 307]?=some fn/\qa6 Tryz.prog fid fn qES=true:=⟨Tryz.f22,Tryz.func22,by kernel_rfl⟩
theorem qNP:∃fn,Tryz.prog.funcs[fid 309]?=some fn/\qa6 Tryz.prog fid fn qGY=true:=⟨Tryz.f37,Tryz.func37,by kernel_rfl⟩
theorem qNO:∃fn,Tryz.prog.funcs[fid 310]?=some fn/\qa6 Tryz.prog fid fn qhA=true:=⟨Tryz.f38,Tryz.func38,by kernel_rfl⟩
theorem qNN:∃fn,Tryz.prog.funcs[fid 311]?=some fn/\qa6 Tryz.prog fid fn qqN=true:=⟨Tryz.f48,Tryz.func48,by kernel_rfl⟩
theorem qNM:∃fn,Tryz.prog.funcs[fid 312]?=some fn/\qa6 Tryz.prog fid fn qK3=true:=⟨Tryz.f49,Tryz.func49,by kernel_rfl⟩
theorem qNL:∃fn,Tryz.prog.funcs[fid 313]?=some fn/\qa6 Tryz.prog fid fn qIJ=true:=⟨Tryz.f50,Tryz.func50,by kernel_rfl⟩
theorem qNK:∃fn,Tryz.prog.funcs[fid 314]?=some fn/\qa6 Tryz.prog fid fn qK2=true:=⟨Tryz.f71,Tryz.func71,by kernel_rfl⟩
theorem qNJ:∃fn,Tryz.prog.funcs[fid 315]?=some fn/\qa6 Tryz.prog fid fn qK1=true:=⟨Tryz.f72,Tryz.func72,by kernel_rfl⟩
theorem qNI:∃fn,Tryz.prog.funcs[fid 316]?=some fn/\qa6 Tryz.prog fid fn qK0=true:=⟨Tryz.f74,Tryz.func74,by kernel_rfl⟩
theorem qNH:∃fn,Tryz.prog.funcs[fid 317]?=some fn/\qa6 Tryz.prog fid fn qLY=true:=⟨Tryz.f40,Tryz.func40,by kernel_rfl⟩
theorem qNG:∃fn,Tryz.prog.funcs[fid 318]?=some fn/\qa6 Tryz.prog fid fn quZ=true:=⟨Tryz.f41,Tryz.func41,by kernel_rfl⟩
theorem qNF:∃fn,Tryz.prog.funcs[fid 319]?=some fn/\qa6 Tryz.prog fid fn qKZ=true:=⟨Tryz.f42,Tryz.func42,by kernel_rfl⟩
theorem qNE:∃fn,Tryz.prog.funcs[fid 320]?=some fn/\qa6 Tryz.prog fid fn qLX=true:=⟨Tryz.f60,Tryz.func60,by kernel_rfl⟩
theorem qND:∃fn,Tryz.prog.funcs[fid 321]?=some fn/\qa6 Tryz.prog fid fn qqv=true:=⟨Tryz.f63,Tryz.func63,by kernel_rfl⟩
theorem qNC:∃fn,Tryz.prog.funcs[fid 322]?=some fn/\qa6 Tryz.prog fid fn qqM=true:=⟨Tryz.f64,Tryz.func64,by kernel_rfl⟩
theorem qNB:∃fn,Tryz.prog.funcs[fid 327]?=some fn/\qa6 Tryz.prog fid fn qLW=true:=⟨Tryz.f89,Tryz.func89,by kernel_rfl⟩
theorem qNA:∃fn,Tryz.prog.funcs[fid 330]?=some fn/\qa6 Tryz.prog fid fn qII=true:=⟨Tryz.f58,Tryz.func58,by kernel_rfl⟩
theorem qNz:∃fn,Tryz.prog.funcs[fid 335]?=some fn/\qa6 Tryz.prog fid fn qLV=true:=⟨Tryz.f11,Tryz.func11,by kernel_rfl⟩
theorem qNy:∃fn,Tryz.prog.funcs[fid 336]?=some fn/\qa6 Tryz.prog fid fn qIH=true:=⟨Tryz.f15,Tryz.func15,by kernel_rfl⟩
theorem qNx:∃fn,Tryz.prog.funcs[fid 370]?=some fn/\qa6 Tryz.prog fid fn qIG=true:=⟨Tryz.f14,Tryz.func14,by kernel_rfl⟩
theorem qNw:∃fn,Tryz.prog.funcs[fid 371]?=some fn/\qa6 Tryz.prog fid fn qGX=true:=⟨Tryz.f3,Tryz.func3,by kernel_rfl⟩
theorem qNv:∃fn,Tryz.prog.funcs[fid 372]?=some fn/\qa6 Tryz.prog fid fn qLU=true:=⟨Tryz.f8,Tryz.func8,by kernel_rfl⟩
theorem qv2:∀{l:List (Nat×VFn)} {k:Nat} {v:VFn},look l k=some v->(k,v)∈l
 | [],_,_,h=>by simp[look]at h
 |(a,u)::r,k,v,h=>by
  simp only[look]at h;split at h
  ·rename_i hk
   simp at h;subst h;subst hk;simp
  ·exact List.mem_cons_of_mem _ (qv2 h)
theorem qGs:∀q,q∈qKE->∃fn,Tryz.prog.funcs[fid q.1]?=some fn/\qa6 Tryz.prog fid fn q.2=true:=
 yc_.2 ⟨qTD,yc_.2 ⟨qTC,yc_.2 ⟨qTB,yc_.2 ⟨qTA,yc_.2 ⟨qTz,yc_.2 ⟨qTy,yc_.2 ⟨qTx,yc_.2 ⟨qTw,yc_.2 ⟨qTv,yc_.2 ⟨qRb,yc_.2 ⟨qRa,yc_.2 ⟨qQ9,yc_.2 ⟨qQ8,yc_.2 ⟨qQ7,yc_.2 ⟨qQ6,yc_.2 ⟨qQ5,yc_.2 ⟨qQ4,yc_.2 ⟨qQ3,yc_.2 ⟨qQ2,yc_.2 ⟨qQ1,yc_.2 ⟨qQ0,yc_.2 ⟨qQZ,yc_.2 ⟨qQY,yc_.2 ⟨qQX,yc_.2 ⟨qQW,yc_.2 ⟨qQV,yc_.2 ⟨qQU,yc_.2 ⟨qQT,yc_.2 ⟨qQS,yc_.2 ⟨qQR,yc_.2 ⟨qQQ,yc_.2 ⟨qQP,yc_.2 ⟨qQO,yc_.2 ⟨qQN,yc_.2 ⟨qQM,yc_.2 ⟨qQL,yc_.2 ⟨qQK,yc_.2 ⟨qQJ,yc_.2 ⟨qQI,yc_.2 ⟨qQH,yc_.2 ⟨qQG,yc_.2 ⟨qOo,yc_.2 ⟨qOn,yc_.2 ⟨qOm,yc_.2 ⟨qOl,yc_.2 ⟨qOk,yc_.2 ⟨qOj,yc_.2 ⟨qOi,yc_.2 ⟨qOh,yc_.2 ⟨qOg,yc_.2 ⟨qOe,yc_.2 ⟨qOd,yc_.2 ⟨qOc,yc_.2 ⟨qOb,yc_.2 ⟨qOa,yc_.2 ⟨qN9,yc_.2 ⟨qN8,yc_.2 ⟨qN7,yc_.2 ⟨qN6,yc_.2 ⟨qN5,yc_.2 ⟨qN4,yc_.2 ⟨qN3,yc_.2 ⟨qN2,yc_.2 ⟨qN1,yc_.2 ⟨qN0,yc_.2 ⟨qNZ,yc_.2 ⟨qNY,yc_.2 ⟨qNX,yc_.2 ⟨qNW,yc_.2 ⟨qNV,yc_.2 ⟨qNU,yc_.2 ⟨qNT,yc_.2 ⟨qNS,yc_.2 ⟨qNR,yc_.2 ⟨qNQ,yc_.2 ⟨qNP,yc_.2 ⟨qNO,yc_.2 ⟨qNN,yc_.2 ⟨qNM,yc_.2 ⟨qNL,yc_.2 ⟨qNK,yc_.2 ⟨qNJ,yc_.2 ⟨qNI,yc_.2 ⟨qNH,yc_.2 ⟨qNG,yc_.2 ⟨qNF,yc_.2 ⟨qNE,yc_.2 ⟨qND,yc_.2 ⟨qNC,yc_.2 ⟨qNB,yc_.2 ⟨qNA,yc_.2 ⟨qNz,yc_.2 ⟨qNy,yc_.2 ⟨qNx,yc_.2 ⟨qNw,yc_.2 ⟨qNv,List.forall_mem_nil _⟩⟩⟩⟩⟩⟩⟩⟩⟩⟩⟩⟩⟩⟩⟩⟩⟩⟩⟩⟩⟩⟩⟩⟩⟩⟩⟩⟩⟩⟩⟩⟩⟩⟩⟩⟩⟩⟩⟩⟩⟩⟩⟩⟩⟩⟩⟩⟩⟩⟩⟩⟩⟩⟩⟩⟩⟩⟩⟩⟩⟩⟩⟩⟩⟩⟩⟩⟩⟩⟩⟩⟩⟩⟩⟩⟩⟩⟩⟩⟩⟩⟩⟩⟩⟩⟩⟩⟩⟩⟩⟩⟩⟩⟩⟩⟩
end Go.Proofs.YtbcbkiaineacpaaGreat.VS
