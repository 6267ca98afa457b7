/- The evaluator's code is the program's. -/
import Derived.Test.YtbcbkiaineacpaaGreatNat1
import Derived.Test.YtbcbkiaineacpaaGreatCode
import Derived.Test.YtbcbkiaineacpaaGreatChecked
import Derived.KernelRfl
set_option linter.unusedVariables false
namespace Go.Proofs.YtbcbkiaineacpaaGreat.VS
open Go.Proofs
def fid:Nat->FuncId
 |1=>7
 |2=>10
 |3=>51
 |4=>87
 |5=>13
 |6=>105
 |7=>31
 |8=>29
 |9=>27
 |11=>6
 |12=>9
 |13=>66
 |14=>78
 |15=>12
 |16=>28
 |17=>26
 |18=>104
 |19=>103
 |20=>30
 |22=>44
 |23=>55
 |24=>80
 |25=>57
 |29=>82
 |30=>79
 |31=>67
 |33=>53
 |34=>96
 |59=>65
 |60=>77
 |61=>101
 |62=>102
 |69=>16
 |70=>39
 |75=>81
 |76=>112
 |77=>54
 |78=>56
 |79=>83
 |80=>36
 |82=>43
 |83=>45
 |84=>68
 |86=>32
 |145=>52
 |146=>70
 |147=>76
 |148=>92
 |150=>88
 |151=>106
 |153=>97
 |154=>117
 |164=>98
 |169=>116
 |170=>120
 |171=>122
 |172=>124
 |173=>125
 |174=>126
 |175=>127
 |192=>95
 |193=>73
 |197=>99
 |242=>23
 |243=>17
 |244=>34
 |245=>24
 |246=>25
 |249=>46
 |250=>47
 |259=>100
 |260=>75
 |261=>69
 |265=>59
 |266=>62
 |269=>84
 |281=>110
 |282=>93
 |283=>111
 |284=>91
 |285=>109
 |286=>108
 |288=>61
 |289=>85
 |290=>86
 |291=>20
 |292=>35
 |293=>19
 |294=>33
 |305=>5
 |306=>21
 |307=>22
 |308=>18
 |309=>37
 |310=>38
 |311=>48
 |312=>49
 |313=>50
 |314=>71
 |315=>72
 |316=>74
 |317=>40
 |318=>41
 |319=>42
 |320=>60
 |321=>63
 |322=>64
 |323=>94
 |324=>113
 |325=>115
 |326=>114
 |327=>89
 |328=>90
 |329=>107
 |330=>58
 |335=>11
 |336=>15
 |369=>4
 |370=>14
 |371=>3
 |372=>8
 |_=>0
theorem qYQ:∃fn,Tryz.prog.funcs[fid 1]?=some fn/\qbf Tryz.prog fid fn v1=true:=⟨Tryz.f7,Tryz.func7,by kernel_rfl⟩
theorem qYP:∃fn,Tryz.prog.funcs[fid 2]?=some fn/\qbf Tryz.prog fid fn v2=true:=⟨Tryz.f10,Tryz.func10,by kernel_rfl⟩
theorem qYO:∃fn,Tryz.prog.funcs[fid 3]?=some fn/\qbf Tryz.prog fid fn v3=true:=⟨Tryz.f51,Tryz.func51,by kernel_rfl⟩
theorem qYN:∃fn,Tryz.prog.funcs[fid 4]?=some fn/\qbf Tryz.prog fid fn v4=true:=⟨Tryz.f87,Tryz.func87,by kernel_rfl⟩
theorem qYM:∃fn,Tryz.prog.funcs[fid 5]?=some fn/\qbf Tryz.prog fid fn v5=true:=⟨Tryz.f13,Tryz.func13,by kernel_rfl⟩
theorem qYL:∃fn,Tryz.prog.funcs[fid 6]?=some fn/\qbf Tryz.prog fid fn v6=true:=⟨Tryz.f105,Tryz.func105,by kernel_rfl⟩
theorem qYK:∃fn,Tryz.prog.funcs[fid 7]?=some fn/\qbf Tryz.prog fid fn v7=true:=⟨Tryz.f31,Tryz.func31,by kernel_rfl⟩
theorem qYJ:∃fn,Tryz.prog.funcs[fid 8]?=some fn/\qbf Tryz.prog fid fn v8=true:=⟨Tryz.f29,Tryz.func29,by kernel_rfl⟩
theorem qYI:∃fn,Tryz.prog.funcs[fid 9]?=some fn/\qbf Tryz.prog fid fn v9=true:=⟨Tryz.f27,Tryz.func27,by kernel_rfl⟩
theorem qWk:∃fn,Tryz.prog.funcs[fid 11]?=some fn/\qbf Tryz.prog fid fn v11=true:=⟨Tryz.f6,Tryz.func6,by kernel_rfl⟩
theorem qWj:∃fn,Tryz.prog.funcs[fid 12]?=some fn/\qbf Tryz.prog fid fn v12=true:=⟨Tryz.f9,Tryz.func9,by kernel_rfl⟩
theorem qWi:∃fn,Tryz.prog.funcs[fid 13]?=some fn/\qbf Tryz.prog fid fn v13=true:=⟨Tryz.f66,Tryz.func66,by kernel_rfl⟩
theorem qWh:∃fn,Tryz.prog.funcs[fid 14]?=some fn/\qbf Tryz.prog fid fn v14=true:=⟨Tryz.f78,Tryz.func78,by kernel_rfl⟩
theorem qWg:∃fn,Tryz.prog.funcs[fid 15]?=some fn/\qbf Tryz.prog fid fn v15=true:=⟨Tryz.f12,Tryz.func12,by kernel_rfl⟩
theorem qWf:∃fn,Tryz.prog.funcs[fid 16]?=some fn/\qbf Tryz.prog fid fn v16=true:=⟨Tryz.f28,Tryz.func28,by kernel_rfl⟩
theorem qWe:∃fn,Tryz.prog.funcs[fid 17]?=some fn/\qbf Tryz.prog fid fn v17=true:=⟨Tryz.f26,Tryz.func26,by kernel_rfl⟩
theorem qWd:∃fn,Tryz.prog.funcs[fid 18]?=some fn/\qbf Tryz.prog fid fn v18=true:=⟨Tryz.f104,Tryz.func104,by kernel_rfl⟩
theorem qWc:∃fn,Tryz.prog.funcs[fid 19]?=some fn/\qbf Tryz.prog fid fn v19=true:=⟨Tryz.f103,Tryz.func103,by kernel_rfl⟩
theorem qWb:∃fn,Tryz.prog.funcs[fid 20]?=some fn/\qbf Tryz.prog fid fn v20=true:=⟨Tryz.f30,Tryz.func30,by kernel_rfl⟩
theorem qWa:∃fn,Tryz.prog.funcs[fid 22]?=some fn/\qbf Tryz.prog fid fn v22=true:=⟨Tryz.f44,Tryz.func44,by kernel_rfl⟩
theorem qV9:∃fn,Tryz.prog.funcs[fid 23]?=some fn/\qbf Tryz.prog fid fn v23=true:=⟨Tryz.f55,Tryz.func55,by kernel_rfl⟩
theorem qV8:∃fn,Tryz.prog.funcs[fid 24]?=some fn/\qbf Tryz.prog fid fn v24=true:=⟨Tryz.f80,Tryz.func80,by kernel_rfl⟩
theorem qV7:∃fn,Tryz.prog.funcs[fid 25]?=some fn/\qbf Tryz.prog fid fn v25=true:=⟨Tryz.f57,Tryz.func57,by kernel_rfl⟩
theorem qV6:∃fn,Tryz.prog.funcs[fid 29]?=some fn/\qbf Tryz.prog fid fn v29=true:=⟨Tryz.f82,Tryz.func82,by kernel_rfl⟩
theorem qV5:∃fn,Tryz.prog.funcs[fid 30]?=some fn/\qbf Tryz.prog fid fn v30=true:=⟨Tryz.f79,Tryz.func79,by kernel_rfl⟩
theorem qV4:∃fn,Tryz.prog.funcs[fid 31]?=some fn/\qbf Tryz.prog fid fn v31=true:=⟨Tryz.f67,Tryz.func67,by kernel_rfl⟩
theorem qV3:∃fn,Tryz.prog.funcs[fid 33]?=some fn/\qbf Tryz.prog fid fn v33=true:=⟨Tryz.f53,Tryz.func53,by kernel_rfl⟩
theorem qV2:∃fn,Tryz.prog.funcs[fid 34]?=some fn/\qbf Tryz.prog fid fn v34=true:=⟨Tryz.f96,Tryz.func96,by kernel_rfl⟩
theorem qV1:∃fn,Tryz.prog.funcs[fid 59]?=some fn/\qbf Tryz.prog fid fn v59=true:=⟨Tryz.f65,Tryz.func65,by kernel_rfl⟩
theorem qV0:∃fn,Tryz.prog.funcs[fid 60]?=some fn/\qbf Tryz.prog fid fn v60=true:=⟨Tryz.f77,Tryz.func77,by kernel_rfl⟩
theorem qVZ:∃fn,Tryz.prog.funcs[fid 61]?=some fn/\qbf Tryz.prog fid fn v61=true:=⟨Tryz.f101,Tryz.func101,by kernel_rfl⟩
theorem qVY:∃fn,Tryz.prog.funcs[fid 62]?=some fn/\qbf Tryz.prog fid fn v62=true:=⟨Tryz.f102,Tryz.func102,by kernel_rfl⟩
theorem qVX:∃fn,Tryz.prog.funcs[fid 69]?=some fn/\qbf Tryz.prog fid fn v69=true:=⟨Tryz.f16,Tryz.func16,by kernel_rfl⟩
theorem qVW:∃fn,Tryz.prog.funcs[fid 70]?=some fn/\qbf Tryz.prog fid fn v70=true:=⟨Tryz.f39,Tryz.func39,by kernel_rfl⟩
theorem qVV:∃fn,Tryz.prog.funcs[fid 75]?=some fn/\qbf Tryz.prog fid fn v75=true:=⟨Tryz.f81,Tryz.func81,by kernel_rfl⟩
theorem qVU:∃fn,Tryz.prog.funcs[fid 77]?=some fn/\qbf Tryz.prog fid fn v77=true:=⟨Tryz.f54,Tryz.func54,by kernel_rfl⟩
theorem qVT:∃fn,Tryz.prog.funcs[fid 78]?=some fn/\qbf Tryz.prog fid fn v78=true:=⟨Tryz.f56,Tryz.func56,by kernel_rfl⟩
theorem qVS:∃fn,Tryz.prog.funcs[fid 79]?=some fn/\qbf Tryz.prog fid fn v79=true:=⟨Tryz.f83,Tryz.func83,by kernel_rfl⟩
theorem qVR:∃fn,Tryz.prog.funcs[fid 80]?=some fn/\qbf Tryz.prog fid fn v80=true:=⟨Tryz.f36,Tryz.func36,by kernel_rfl⟩
theorem qVQ:∃fn,Tryz.prog.funcs[fid 82]?=some fn/\qbf Tryz.prog fid fn v82=true:=⟨Tryz.f43,Tryz.func43,by kernel_rfl⟩
theorem qVP:∃fn,Tryz.prog.funcs[fid 83]?=some fn/\qbf Tryz.prog fid fn v83=true:=⟨Tryz.f45,Tryz.func45,by kernel_rfl⟩
theorem qVO:∃fn,Tryz.prog.funcs[fid 84]?=some fn/\qbf Tryz.prog fid fn v84=true:=⟨Tryz.f68,Tryz.func68,by kernel_rfl⟩
theorem qVN:∃fn,Tryz.prog.funcs[fid 86]?=some fn/\qbf Tryz.prog fid fn v86=true:=⟨Tryz.f32,Tryz.func32,by kernel_rfl⟩
theorem qTm:∃fn,Tryz.prog.funcs[fid 145]?=some fn/\qbf Tryz.prog fid fn qQu=true:=⟨Tryz.f52,Tryz.func52,by kernel_rfl⟩
theorem qTl:∃fn,Tryz.prog.funcs[fid 146]?=some fn/\qbf Tryz.prog fid fn qQt=true:=⟨Tryz.f70,Tryz.func70,by kernel_rfl⟩
theorem qTk:∃fn,Tryz.prog.funcs[fid 147]?=some fn/\qbf Tryz.prog fid fn qQs=true:=⟨Tryz.f76,Tryz.func76,by kernel_rfl⟩
theorem qTj:∃fn,Tryz.prog.funcs[fid 148]?=some fn/\qbf Tryz.prog fid fn qQr=true:=⟨Tryz.f92,Tryz.func92,by kernel_rfl⟩
theorem qTi:∃fn,Tryz.prog.funcs[fid 150]?=some fn/\qbf Tryz.prog fid fn qQq=true:=⟨Tryz.f88,Tryz.func88,by kernel_rfl⟩
theorem qTh:∃fn,Tryz.prog.funcs[fid 151]?=some fn/\qbf Tryz.prog fid fn qQp=true:=⟨Tryz.f106,Tryz.func106,by kernel_rfl⟩
theorem qTg:∃fn,Tryz.prog.funcs[fid 153]?=some fn/\qbf Tryz.prog fid fn qQo=true:=⟨Tryz.f97,Tryz.func97,by kernel_rfl⟩
theorem qTf:∃fn,Tryz.prog.funcs[fid 154]?=some fn/\qbf Tryz.prog fid fn qQn=true:=⟨Tryz.f117,Tryz.func117,by kernel_rfl⟩
theorem qTe:∃fn,Tryz.prog.funcs[fid 164]?=some fn/\qbf Tryz.prog fid fn qQm=true:=⟨Tryz.f98,Tryz.func98,by kernel_rfl⟩
theorem qTd:∃fn,Tryz.prog.funcs[fid 169]?=some fn/\qbf Tryz.prog fid fn qXn=true:=⟨Tryz.f116,Tryz.func116,by kernel_rfl⟩
theorem qTc:∃fn,Tryz.prog.funcs[fid 170]?=some fn/\qbf Tryz.prog fid fn qL9=true:=⟨Tryz.f120,Tryz.func120,by kernel_rfl⟩
theorem qTb:∃fn,Tryz.prog.funcs[fid 171]?=some fn/\qbf Tryz.prog fid fn qL8=true:=⟨Tryz.f122,Tryz.func122,by kernel_rfl⟩
theorem qTa:∃fn,Tryz.prog.funcs[fid 172]?=some fn/\qbf Tryz.prog fid fn qGB=true:=⟨Tryz.f124,Tryz.func124,by kernel_rfl⟩
theorem qS9:∃fn,Tryz.prog.funcs[fid 173]?=some fn/\qbf Tryz.prog fid fn qGA=true:=⟨Tryz.f125,Tryz.func125,by kernel_rfl⟩
theorem qS8:∃fn,Tryz.prog.funcs[fid 174]?=some fn/\qbf Tryz.prog fid fn qQl=true:=⟨Tryz.f126,Tryz.func126,by kernel_rfl⟩
theorem qS7:∃fn,Tryz.prog.funcs[fid 175]?=some fn/\qbf Tryz.prog fid fn qQk=true:=⟨Tryz.f127,Tryz.func127,by kernel_rfl⟩
theorem qS6:∃fn,Tryz.prog.funcs[fid 192]?=some fn/\qbf Tryz.prog fid fn qGz=true:=⟨Tryz.f95,Tryz.func95,by kernel_rfl⟩
theorem qS5:∃fn,Tryz.prog.funcs[fid 193]?=some fn/\qbf Tryz.prog fid fn qGy=true:=⟨Tryz.f73,Tryz.func73,by kernel_rfl⟩
theorem qS4:∃fn,Tryz.prog.funcs[fid 197]?=some fn/\qbf Tryz.prog fid fn qQj=true:=⟨Tryz.f99,Tryz.func99,by kernel_rfl⟩
theorem qS3:∃fn,Tryz.prog.funcs[fid 243]?=some fn/\qbf Tryz.prog fid fn qPf=true:=⟨Tryz.f17,Tryz.func17,by kernel_rfl⟩
theorem qS2:∃fn,Tryz.prog.funcs[fid 244]?=some fn/\qbf Tryz.prog fid fn qPe=true:=⟨Tryz.f34,Tryz.func34,by kernel_rfl⟩
theorem qS1:∃fn,Tryz.prog.funcs[fid 249]?=some fn/\qbf Tryz.prog fid fn qQi=true:=⟨Tryz.f46,Tryz.func46,by kernel_rfl⟩
theorem qS0:∃fn,Tryz.prog.funcs[fid 250]?=some fn/\qbf Tryz.prog fid fn qQh=true:=⟨Tryz.f47,Tryz.func47,by kernel_rfl⟩
theorem qSZ:∃fn,Tryz.prog.funcs[fid 259]?=some fn/\qbf Tryz.prog fid fn qQg=true:=⟨Tryz.f100,Tryz.func100,by kernel_rfl⟩
theorem qSY:∃fn,Tryz.prog.funcs[fid 260]?=some fn/\qbf Tryz.prog fid fn qQf=true:=⟨Tryz.f75,Tryz.func75,by kernel_rfl⟩
theorem qSX:∃fn,Tryz.prog.funcs[fid 261]?=some fn/\qbf Tryz.prog fid fn qPd=true:=⟨Tryz.f69,Tryz.func69,by kernel_rfl⟩
theorem qSW:∃fn,Tryz.prog.funcs[fid 265]?=some fn/\qbf Tryz.prog fid fn qQe=true:=⟨Tryz.f59,Tryz.func59,by kernel_rfl⟩
theorem qSV:∃fn,Tryz.prog.funcs[fid 266]?=some fn/\qbf Tryz.prog fid fn qQd=true:=⟨Tryz.f62,Tryz.func62,by kernel_rfl⟩
theorem qSU:∃fn,Tryz.prog.funcs[fid 269]?=some fn/\qbf Tryz.prog fid fn qQc=true:=⟨Tryz.f84,Tryz.func84,by kernel_rfl⟩
theorem qST:∃fn,Tryz.prog.funcs[fid 281]?=some fn/\qbf Tryz.prog fid fn qQb=true:=⟨Tryz.f110,Tryz.func110,by kernel_rfl⟩
theorem qSS:∃fn,Tryz.prog.funcs[fid 282]?=some fn/\qbf Tryz.prog fid fn qQa=true:=⟨Tryz.f93,Tryz.func93,by kernel_rfl⟩
theorem qSR:∃fn,Tryz.prog.funcs[fid 283]?=some fn/\qbf Tryz.prog fid fn qP9=true:=⟨Tryz.f111,Tryz.func111,by kernel_rfl⟩
theorem qSQ:∃fn,Tryz.prog.funcs[fid 288]?=some fn/\qbf Tryz.prog fid fn qP8=true:=⟨Tryz.f61,Tryz.func61,by kernel_rfl⟩
theorem qSP:∃fn,Tryz.prog.funcs[fid 289]?=some fn/\qbf Tryz.prog fid fn qPc=true:=⟨Tryz.f85,Tryz.func85,by kernel_rfl⟩
theorem qSO:∃fn,Tryz.prog.funcs[fid 290]?=some fn/\qbf Tryz.prog fid fn qPb=true:=⟨Tryz.f86,Tryz.func86,by kernel_rfl⟩
theorem qSN:∃fn,Tryz.prog.funcs[fid 291]?=some fn/\qbf Tryz.prog fid fn qPa=true:=⟨Tryz.f20,Tryz.func20,by kernel_rfl⟩
theorem qSM:∃fn,Tryz.prog.funcs[fid 292]?=some fn/\qbf Tryz.prog fid fn qO9=true:=⟨Tryz.f35,Tryz.func35,by kernel_rfl⟩
theorem qSL:∃fn,Tryz.prog.funcs[fid 293]?=some fn/\qbf Tryz.prog fid fn qO8=true:=⟨Tryz.f19,Tryz.func19,by kernel_rfl⟩
theorem qSK:∃fn,Tryz.prog.funcs[fid 294]?=some fn/\qbf Tryz.prog fid fn qP7=true:=⟨Tryz.f33,Tryz.func33,by kernel_rfl⟩
theorem qSJ:∃fn,Tryz.prog.funcs[fid 306]?=some fn/\qbf Tryz.prog fid fn qFE=true:=⟨Tryz.f21,Tryz.func21,by kernel_rfl⟩
theorem qSI:∃fn,Tryz.prog.funcs[fid 307]?=some fn/\qbf Tryz.prog fid fn qGx=true:=⟨Tryz.f22,Tryz.func22,by kernel_rfl⟩
theorem qSH:∃fn,Tryz.prog.funcs[fid 308]?=some fn/\qbf Tryz.prog fid fn qP6=true:=⟨Tryz.f18,Tryz.func18,by kernel_rfl⟩
theorem qSG:∃fn,Tryz.prog.funcs[fid 309]?=some fn/\qbf Tryz.prog fid fn qP5=true:=⟨Tryz.f37,Tryz.func37,by kernel_rfl⟩
theorem qSF:∃fn,Tryz.prog.funcs[fid 310]?=some fn/\qbf Tryz.prog fid fn qjS=true:=⟨Tryz.f38,Tryz.func38,by kernel_rfl⟩
theorem qSE:∃fn,Tryz.prog.funcs[fid 311]?=some fn/\qbf Tryz.prog fid fn qr5=true:=⟨Tryz.f48,Tryz.func48,by kernel_rfl⟩
theorem qSD:∃fn,Tryz.prog.funcs[fid 312]?=some fn/\qbf Tryz.prog fid fn qP4=true:=⟨Tryz.f49,Tryz.func49,by kernel_rfl⟩
theorem qSC:∃fn,Tryz.prog.funcs[fid 313]?=some fn/\qbf Tryz.prog fid fn qP3=true:=⟨Tryz.f50,Tryz.func50,by kernel_rfl⟩
theorem qSB:∃fn,Tryz.prog.funcs[fid 314]?=some fn/\qbf Tryz.prog fid fn qO7=true:=⟨Tryz.f71,Tryz.func71,by kernel_rfl⟩
theorem qSA:∃fn,Tryz.prog.funcs[fid 315]?=some fn/\qbf Tryz.prog fid fn qP2=true:=⟨Tryz.f72,Tryz.func72,by kernel_rfl⟩
theorem qSz:∃fn,Tryz.prog.funcs[fid 316]?=some fn/\qbf Tryz.prog fid fn qP1=true:=⟨Tryz.f74,Tryz.func74,by kernel_rfl⟩
theorem qSy:∃fn,Tryz.prog.funcs[fid 317]?=some fn/\qbf Tryz.prog fid fn qP0=true:=⟨Tryz.f40,Tryz.func40,by kernel_rfl⟩
theorem qSx:∃fn,Tryz.prog.funcs[fid 318]?=some fn/\qbf Tryz.prog fid fn quh=true:=⟨Tryz.f41,Tryz.func41,by kernel_rfl⟩
theorem qSw:∃fn,Tryz.prog.funcs[fid 319]?=some fn/\qbf Tryz.prog fid fn qO6=true:=⟨Tryz.f42,Tryz.func42,by kernel_rfl⟩
theorem qSv:∃fn,Tryz.prog.funcs[fid 320]?=some fn/\qbf Tryz.prog fid fn qPZ=true:=⟨Tryz.f60,Tryz.func60,by kernel_rfl⟩
theorem qSu:∃fn,Tryz.prog.funcs[fid 321]?=some fn/\qbf Tryz.prog fid fn qr4=true:=⟨Tryz.f63,Tryz.func63,by kernel_rfl⟩
theorem qSt:∃fn,Tryz.prog.funcs[fid 322]?=some fn/\qbf Tryz.prog fid fn qrP=true:=⟨Tryz.f64,Tryz.func64,by kernel_rfl⟩
theorem qSs:∃fn,Tryz.prog.funcs[fid 327]?=some fn/\qbf Tryz.prog fid fn qPY=true:=⟨Tryz.f89,Tryz.func89,by kernel_rfl⟩
theorem qSr:∃fn,Tryz.prog.funcs[fid 330]?=some fn/\qbf Tryz.prog fid fn qL7=true:=⟨Tryz.f58,Tryz.func58,by kernel_rfl⟩
theorem qSq:∃fn,Tryz.prog.funcs[fid 336]?=some fn/\qbf Tryz.prog fid fn qL6=true:=⟨Tryz.f15,Tryz.func15,by kernel_rfl⟩
theorem qSp:∃fn,Tryz.prog.funcs[fid 369]?=some fn/\qbf Tryz.prog fid fn qI1=true:=⟨Tryz.f4,Tryz.func4,by kernel_rfl⟩
theorem qSo:∃fn,Tryz.prog.funcs[fid 370]?=some fn/\qbf Tryz.prog fid fn qL5=true:=⟨Tryz.f14,Tryz.func14,by kernel_rfl⟩
theorem qwJ:∀{l:List (Nat×VFn)} {k:Nat} {v:VFn},look l k=some v->(k,v)∈l
 | [],_,_,h=>by simp[look]at h
 |(a,u)::r,k,v,h=>by
  simp only[look]at h;split at h
  ·rename_i hk
   simp at h;subst h;subst hk;simp
  ·exact List.mem_cons_of_mem _ (qwJ h)
theorem qIt:∀q,q∈qOJ->∃fn,Tryz.prog.funcs[fid q.1]?=some fn/\qbf Tryz.prog fid fn q.2=true:=
 yc_.2 ⟨qYQ,yc_.2 ⟨qYP,yc_.2 ⟨qYO,yc_.2 ⟨qYN,yc_.2 ⟨qYM,yc_.2 ⟨qYL,yc_.2 ⟨qYK,yc_.2 ⟨qYJ,yc_.2 ⟨qYI,yc_.2 ⟨qWk,yc_.2 ⟨qWj,yc_.2 ⟨qWi,yc_.2 ⟨qWh,yc_.2 ⟨qWg,yc_.2 ⟨qWf,yc_.2 ⟨qWe,yc_.2 ⟨qWd,yc_.2 ⟨qWc,yc_.2 ⟨qWb,yc_.2 ⟨qWa,yc_.2 ⟨qV9,yc_.2 ⟨qV8,yc_.2 ⟨qV7,yc_.2 ⟨qV6,yc_.2 ⟨qV5,yc_.2 ⟨qV4,yc_.2 ⟨qV3,yc_.2 ⟨qV2,yc_.2 ⟨qV1,yc_.2 ⟨qV0,yc_.2 ⟨qVZ,yc_.2 ⟨qVY,yc_.2 ⟨qVX,yc_.2 ⟨qVW,yc_.2 ⟨qVV,yc_.2 ⟨qVU,yc_.2 ⟨qVT,yc_.2 ⟨qVS,yc_.2 ⟨qVR,yc_.2 ⟨qVQ,yc_.2 ⟨qVP,yc_.2 ⟨qVO,yc_.2 ⟨qVN,yc_.2 ⟨qTm,yc_.2 ⟨qTl,yc_.2 ⟨qTk,yc_.2 ⟨qTj,yc_.2 ⟨qTi,yc_.2 ⟨qTh,yc_.2 ⟨qTg,yc_.2 ⟨qTf,yc_.2 ⟨qTe,yc_.2 ⟨qTc,yc_.2 ⟨qTb,yc_.2 ⟨qTa,yc_.2 ⟨qS9,yc_.2 ⟨qS8,yc_.2 ⟨qS7,yc_.2 ⟨qS6,yc_.2 ⟨qS5,yc_.2 ⟨qS4,yc_.2 ⟨qS3,yc_.2 ⟨qS2,yc_.2 ⟨qS1,yc_.2 ⟨qS0,yc_.2 ⟨qSZ,yc_.2 ⟨qSY,yc_.2 ⟨qSX,yc_.2 ⟨qSW,yc_.2 ⟨qSV,yc_.2 ⟨qSU,yc_.2 ⟨qST,yc_.2 ⟨qSS,yc_.2 ⟨qSR,yc_.2 ⟨qSQ,yc_.2 ⟨qSP,yc_.2 ⟨qSO,yc_.2 ⟨qSN,yc_.2 ⟨qSM,yc_.2 ⟨qSL,yc_.2 ⟨qSK,yc_.2 ⟨qSJ,yc_.2 ⟨qSI,yc_.2 ⟨qSH,yc_.2 ⟨qSG,yc_.2 ⟨qSF,yc_.2 ⟨qSE,yc_.2 ⟨qSD,yc_.2 ⟨qSC,yc_.2 ⟨qSB,yc_.2 ⟨qSA,yc_.2 ⟨qSz,yc_.2 ⟨qSy,yc_.2 ⟨qSx,yc_.2 ⟨qSw,yc_.2 ⟨qSv,yc_.2 ⟨qSu,yc_.2 ⟨qSt,yc_.2 ⟨qSs,yc_.2 ⟨qSr,yc_.2 ⟨qSq,yc_.2 ⟨qSp,yc_.2 ⟨qSo,List.forall_mem_nil _⟩⟩⟩⟩⟩⟩⟩⟩⟩⟩⟩⟩⟩⟩⟩⟩⟩⟩⟩⟩⟩⟩⟩⟩⟩⟩⟩⟩⟩⟩⟩⟩⟩⟩⟩⟩⟩⟩⟩⟩⟩⟩⟩⟩⟩⟩⟩⟩⟩⟩⟩⟩⟩⟩⟩⟩⟩⟩⟩⟩⟩⟩⟩⟩⟩⟩⟩⟩⟩⟩⟩⟩⟩⟩⟩⟩⟩⟩⟩⟩⟩⟩⟩⟩⟩⟩⟩⟩⟩⟩⟩⟩⟩⟩⟩⟩⟩⟩⟩⟩⟩⟩⟩
end Go.Proofs.YtbcbkiaineacpaaGreat.VS
