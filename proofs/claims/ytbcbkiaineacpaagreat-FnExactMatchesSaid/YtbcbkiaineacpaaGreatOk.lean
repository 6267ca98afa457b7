/- The evaluator's code is the program's. -/
import Derived.Test.YtbcbkiaineacpaaGreatNat1
import Derived.Test.YtbcbkiaineacpaaGreatCode
import Derived.Test.YtbcbkiaineacpaaGreatChecked
import Derived.KernelRfl
set_option linter.unusedVariables false
namespace Go.Proofs.YtbcbkiaineacpaaGreat.VS
open Go.Proofs
def fid:Nat->FuncId
 |1=>7
 |2=>10
 |3=>51
 |4=>87
 |5=>13
 |6=>105
 |7=>31
 |8=>29
 |9=>27
 |11=>6
 |12=>9
 |13=>66
 |14=>78
 |15=>12
 |16=>28
 |17=>26
 |18=>104
 |19=>103
 |20=>30
 |22=>44
 |23=>55
 |24=>80
 |25=>57
 |29=>82
 |30=>79
 |31=>67
 |33=>53
 |34=>96
 |59=>65
 |60=>77
 |61=>101
 |62=>102
 |69=>16
 |70=>39
 |75=>81
 |76=>112
 |77=>54
 |78=>56
 |79=>83
 |80=>36
 |82=>43
 |83=>45
 |84=>68
 |86=>32
 |145=>52
 |146=>70
 |147=>76
 |148=>92
 |150=>88
 |151=>106
 |153=>97
 |154=>117
 |164=>98
 |169=>116
 |170=>120
 |171=>122
 |172=>124
 |173=>125
 |174=>126
 |175=>127
 |192=>95
 |193=>73
 |197=>99
 |242=>23
 |243=>17
 |244=>34
 |245=>24
 |246=>25
 |249=>46
 |250=>47
 |259=>100
 |260=>75
 |261=>69
 |265=>59
 |266=>62
 |269=>84
 |281=>110
 |282=>93
 |283=>111
 |284=>91
 |285=>109
 |286=>108
 |288=>61
 |289=>85
 |290=>86
 |291=>20
 |292=>35
 |293=>19
 |294=>33
 |305=>5
 |306=>21
 |307=>22
 |308=>18
 |309=>37
 |310=>38
 |311=>48
 |312=>49
 |313=>50
 |314=>71
 |315=>72
 |316=>74
 |317=>40
 |318=>41
 |319=>42
 |320=>60
 |321=>63
 |322=>64
 |323=>94
 |324=>113
 |325=>115
 |326=>114
 |327=>89
 |328=>90
 |329=>107
 |330=>58
 |335=>11
 |336=>15
 |369=>4
 |370=>14
 |371=>3
 |372=>8
 |_=>0
theorem qZE:∃fn,Tryz.prog.funcs[fid 1]?=some fn/\qbf Tryz.prog fid fn v1=true:=⟨Tryz.f7,Tryz.func7,by kernel_rfl⟩
theorem qZD:∃fn,Tryz.prog.funcs[fid 2]?=some fn/\qbf Tryz.prog fid fn v2=true:=⟨Tryz.f10,Tryz.func10,by kernel_rfl⟩
theorem qZC:∃fn,Tryz.prog.funcs[fid 3]?=some fn/\qbf Tryz.prog fid fn v3=true:=⟨Tryz.f51,Tryz.func51,by kernel_rfl⟩
theorem qZB:∃fn,Tryz.prog.funcs[fid 4]?=some fn/\qbf Tryz.prog fid fn v4=true:=⟨Tryz.f87,Tryz.func87,by kernel_rfl⟩
theorem qZA:∃fn,Tryz.prog.funcs[fid 5]?=some fn/\qbf Tryz.prog fid fn v5=true:=⟨Tryz.f13,Tryz.func13,by kernel_rfl⟩
theorem qZz:∃fn,Tryz.prog.funcs[fid 6]?=some fn/\qbf Tryz.prog fid fn v6=true:=⟨Tryz.f105,Tryz.func105,by kernel_rfl⟩
theorem qZy:∃fn,Tryz.prog.funcs[fid 7]?=some fn/\qbf Tryz.prog fid fn v7=true:=⟨Tryz.f31,Tryz.func31,by kernel_rfl⟩
theorem qZx:∃fn,Tryz.prog.funcs[fid 8]?=some fn/\qbf Tryz.prog fid fn v8=true:=⟨Tryz.f29,Tryz.func29,by kernel_rfl⟩
theorem qZw:∃fn,Tryz.prog.funcs[fid 9]?=some fn/\qbf Tryz.prog fid fn v9=true:=⟨Tryz.f27,Tryz.func27,by kernel_rfl⟩
theorem qW9:∃fn,Tryz.prog.funcs[fid 11]?=some fn/\qbf Tryz.prog fid fn v11=true:=⟨Tryz.f6,Tryz.func6,by kernel_rfl⟩
theorem qW8:∃fn,Tryz.prog.funcs[fid 12]?=some fn/\qbf Tryz.prog fid fn v12=true:=⟨Tryz.f9,Tryz.func9,by kernel_rfl⟩
theorem qW7:∃fn,Tryz.prog.funcs[fid 13]?=some fn/\qbf Tryz.prog fid fn v13=true:=⟨Tryz.f66,Tryz.func66,by kernel_rfl⟩
theorem qW6:∃fn,Tryz.prog.funcs[fid 14]?=some fn/\qbf Tryz.prog fid fn v14=true:=⟨Tryz.f78,Tryz.func78,by kernel_rfl⟩
theorem qW5:∃fn,Tryz.prog.funcs[fid 15]?=some fn/\qbf Tryz.prog fid fn v15=true:=⟨Tryz.f12,Tryz.func12,by kernel_rfl⟩
theorem qW4:∃fn,Tryz.prog.funcs[fid 16]?=some fn/\qbf Tryz.prog fid fn v16=true:=⟨Tryz.f28,Tryz.func28,by kernel_rfl⟩
theorem qW3:∃fn,Tryz.prog.funcs[fid 17]?=some fn/\qbf Tryz.prog fid fn v17=true:=⟨Tryz.f26,Tryz.func26,by kernel_rfl⟩
theorem qW2:∃fn,Tryz.prog.funcs[fid 18]?=some fn/\qbf Tryz.prog fid fn v18=true:=⟨Tryz.f104,Tryz.func104,by kernel_rfl⟩
theorem qW1:∃fn,Tryz.prog.funcs[fid 19]?=some fn/\qbf Tryz.prog fid fn v19=true:=⟨Tryz.f103,Tryz.func103,by kernel_rfl⟩
theorem qW0:∃fn,Tryz.prog.funcs[fid 20]?=some fn/\qbf Tryz.prog fid fn v20=true:=⟨Tryz.f30,Tryz.func30,by kernel_rfl⟩
theorem qWZ:∃fn,Tryz.prog.funcs[fid 22]?=some fn/\qbf Tryz.prog fid fn v22=true:=⟨Tryz.f44,Tryz.func44,by kernel_rfl⟩
theorem qWY:∃fn,Tryz.prog.funcs[fid 23]?=some fn/\qbf Tryz.prog fid fn v23=true:=⟨Tryz.f55,Tryz.func55,by kernel_rfl⟩
theorem qWX:∃fn,Tryz.prog.funcs[fid 24]?=some fn/\qbf Tryz.prog fid fn v24=true:=⟨Tryz.f80,Tryz.func80,by kernel_rfl⟩
theorem qWW:∃fn,Tryz.prog.funcs[fid 25]?=some fn/\qbf Tryz.prog fid fn v25=true:=⟨Tryz.f57,Tryz.func57,by kernel_rfl⟩
theorem qWV:∃fn,Tryz.prog.funcs[fid 29]?=some fn/\qbf Tryz.prog fid fn v29=true:=⟨Tryz.f82,Tryz.func82,by kernel_rfl⟩
theorem qWU:∃fn,Tryz.prog.funcs[fid 30]?=some fn/\qbf Tryz.prog fid fn v30=true:=⟨Tryz.f79,Tryz.func79,by kernel_rfl⟩
theorem qWT:∃fn,Tryz.prog.funcs[fid 31]?=some fn/\qbf Tryz.prog fid fn v31=true:=⟨Tryz.f67,Tryz.func67,by kernel_rfl⟩
theorem qWS:∃fn,Tryz.prog.funcs[fid 33]?=some fn/\qbf Tryz.prog fid fn v33=true:=⟨Tryz.f53,Tryz.func53,by kernel_rfl⟩
theorem qWR:∃fn,Tryz.prog.funcs[fid 34]?=some fn/\qbf Tryz.prog fid fn v34=true:=⟨Tryz.f96,Tryz.func96,by kernel_rfl⟩
theorem qWQ:∃fn,Tryz.prog.funcs[fid 59]?=some fn/\qbf Tryz.prog fid fn v59=true:=⟨Tryz.f65,Tryz.func65,by kernel_rfl⟩
theorem qWP:∃fn,Tryz.prog.funcs[fid 60]?=some fn/\qbf Tryz.prog fid fn v60=true:=⟨Tryz.f77,Tryz.func77,by kernel_rfl⟩
theorem qWO:∃fn,Tryz.prog.funcs[fid 61]?=some fn/\qbf Tryz.prog fid fn v61=true:=⟨Tryz.f101,Tryz.func101,by kernel_rfl⟩
theorem qWN:∃fn,Tryz.prog.funcs[fid 62]?=some fn/\qbf Tryz.prog fid fn v62=true:=⟨Tryz.f102,Tryz.func102,by kernel_rfl⟩
theorem qWM:∃fn,Tryz.prog.funcs[fid 69]?=some fn/\qbf Tryz.prog fid fn v69=true:=⟨Tryz.f16,Tryz.func16,by kernel_rfl⟩
theorem qWL:∃fn,Tryz.prog.funcs[fid 70]?=some fn/\qbf Tryz.prog fid fn v70=true:=⟨Tryz.f39,Tryz.func39,by kernel_rfl⟩
theorem qWK:∃fn,Tryz.prog.funcs[fid 75]?=some fn/\qbf Tryz.prog fid fn v75=true:=⟨Tryz.f81,Tryz.func81,by kernel_rfl⟩
theorem qWJ:∃fn,Tryz.prog.funcs[fid 77]?=some fn/\qbf Tryz.prog fid fn v77=true:=⟨Tryz.f54,Tryz.func54,by kernel_rfl⟩
theorem qWI:∃fn,Tryz.prog.funcs[fid 78]?=some fn/\qbf Tryz.prog fid fn v78=true:=⟨Tryz.f56,Tryz.func56,by kernel_rfl⟩
theorem qWH:∃fn,Tryz.prog.funcs[fid 79]?=some fn/\qbf Tryz.prog fid fn v79=true:=⟨Tryz.f83,Tryz.func83,by kernel_rfl⟩
theorem qWG:∃fn,Tryz.prog.funcs[fid 80]?=some fn/\qbf Tryz.prog fid fn v80=true:=⟨Tryz.f36,Tryz.func36,by kernel_rfl⟩
theorem qWF:∃fn,Tryz.prog.funcs[fid 82]?=some fn/\qbf Tryz.prog fid fn v82=true:=⟨Tryz.f43,Tryz.func43,by kernel_rfl⟩
theorem qWE:∃fn,Tryz.prog.funcs[fid 83]?=some fn/\qbf Tryz.prog fid fn v83=true:=⟨Tryz.f45,Tryz.func45,by kernel_rfl⟩
theorem qWD:∃fn,Tryz.prog.funcs[fid 84]?=some fn/\qbf Tryz.prog fid fn v84=true:=⟨Tryz.f68,Tryz.func68,by kernel_rfl⟩
theorem qWC:∃fn,Tryz.prog.funcs[fid 86]?=some fn/\qbf Tryz.prog fid fn v86=true:=⟨Tryz.f32,Tryz.func32,by kernel_rfl⟩
theorem qT8:∃fn,Tryz.prog.funcs[fid 145]?=some fn/\qbf Tryz.prog fid fn qRe=true:=⟨Tryz.f52,Tryz.func52,by kernel_rfl⟩
theorem qT7:∃fn,Tryz.prog.funcs[fid 146]?=some fn/\qbf Tryz.prog fid fn qRd=true:=⟨Tryz.f70,Tryz.func70,by kernel_rfl⟩
theorem qT6:∃fn,Tryz.prog.funcs[fid 147]?=some fn/\qbf Tryz.prog fid fn qRc=true:=⟨Tryz.f76,Tryz.func76,by kernel_rfl⟩
theorem qT5:∃fn,Tryz.prog.funcs[fid 148]?=some fn/\qbf Tryz.prog fid fn qRb=true:=⟨Tryz.f92,Tryz.func92,by kernel_rfl⟩
theorem qT4:∃fn,Tryz.prog.funcs[fid 150]?=some fn/\qbf Tryz.prog fid fn qRa=true:=⟨Tryz.f88,Tryz.func88,by kernel_rfl⟩
theorem qT3:∃fn,Tryz.prog.funcs[fid 151]?=some fn/\qbf Tryz.prog fid fn qQ9=true:=⟨Tryz.f106,Tryz.func106,by kernel_rfl⟩
theorem qT2:∃fn,Tryz.prog.funcs[fid 153]?=some fn/\qbf Tryz.prog fid fn qQ8=true:=⟨Tryz.f97,Tryz.func97,by kernel_rfl⟩
theorem qT1:∃fn,Tryz.prog.funcs[fid 154]?=some fn/\qbf Tryz.prog fid fn qQ7=true:=⟨Tryz.f117,Tryz.func117,by kernel_rfl⟩
theorem qT0:∃fn,Tryz.prog.funcs[fid 164]?=some fn/\qbf Tryz.prog fid fn qQ6=true:=⟨Tryz.f98,Tryz.func98,by kernel_rfl⟩
theorem qTZ:∃fn,Tryz.prog.funcs[fid 169]?=some fn/\qbf Tryz.prog fid fn qYb=true:=⟨Tryz.f116,Tryz.func116,by kernel_rfl⟩
theorem qTY:∃fn,Tryz.prog.funcs[fid 170]?=some fn/\qbf Tryz.prog fid fn qMQ=true:=⟨Tryz.f120,Tryz.func120,by kernel_rfl⟩
theorem qTX:∃fn,Tryz.prog.funcs[fid 171]?=some fn/\qbf Tryz.prog fid fn qMP=true:=⟨Tryz.f122,Tryz.func122,by kernel_rfl⟩
theorem qTW:∃fn,Tryz.prog.funcs[fid 172]?=some fn/\qbf Tryz.prog fid fn qHe=true:=⟨Tryz.f124,Tryz.func124,by kernel_rfl⟩
theorem qTV:∃fn,Tryz.prog.funcs[fid 173]?=some fn/\qbf Tryz.prog fid fn qHd=true:=⟨Tryz.f125,Tryz.func125,by kernel_rfl⟩
theorem qTU:∃fn,Tryz.prog.funcs[fid 174]?=some fn/\qbf Tryz.prog fid fn qQ5=true:=⟨Tryz.f126,Tryz.func126,by kernel_rfl⟩
theorem qTT:∃fn,Tryz.prog.funcs[fid 175]?=some fn/\qbf Tryz.prog fid fn qQ4=true:=⟨Tryz.f127,Tryz.func127,by kernel_rfl⟩
theorem qTS:∃fn,Tryz.prog.funcs[fid 192]?=some fn/\qbf Tryz.prog fid fn qHc=true:=⟨Tryz.f95,Tryz.func95,by kernel_rfl⟩
theorem qTR:∃fn,Tryz.prog.funcs[fid 193]?=some fn/\qbf Tryz.prog fid fn qHb=true:=⟨Tryz.f73,Tryz.func73,by kernel_rfl⟩
theorem qTQ:∃fn,Tryz.prog.funcs[fid 197]?=some fn/\qbf Tryz.prog fid fn qQ3=true:=⟨Tryz.f99,Tryz.func99,by kernel_rfl⟩
theorem qTP:∃fn,Tryz.prog.funcs[fid 242]?=some fn/\qbf Tryz.prog fid fn qQ2=true:=⟨Tryz.f23,Tryz.func23,by kernel_rfl⟩
theorem qTO:∃fn,Tryz.prog.funcs[fid 243]?=some fn/\qbf Tryz.prog fid fn qPY=true:=⟨Tryz.f17,Tryz.func17,by kernel_rfl⟩
theorem qTN:∃fn,Tryz.prog.funcs[fid 244]?=some fn/\qbf Tryz.prog fid fn qPX=true:=⟨Tryz.f34,Tryz.func34,by kernel_rfl⟩
theorem qTM:∃fn,Tryz.prog.funcs[fid 245]?=some fn/\qbf Tryz.prog fid fn qPW=true:=⟨Tryz.f24,Tryz.func24,by kernel_rfl⟩
theorem qTL:∃fn,Tryz.prog.funcs[fid 246]?=some fn/\qbf Tryz.prog fid fn qPV=true:=⟨Tryz.f25,Tryz.func25,by kernel_rfl⟩
theorem qTK:∃fn,Tryz.prog.funcs[fid 249]?=some fn/\qbf Tryz.prog fid fn qQ1=true:=⟨Tryz.f46,Tryz.func46,by kernel_rfl⟩
theorem qTJ:∃fn,Tryz.prog.funcs[fid 250]?=some fn/\qbf Tryz.prog fid fn qQ0=true:=⟨Tryz.f47,Tryz.func47,by kernel_rfl⟩
theorem qTI:∃fn,Tryz.prog.funcs[fid 259]?=some fn/\qbf Tryz.prog fid fn qQZ=true:=⟨Tryz.f100,Tryz.func100,by kernel_rfl⟩
theorem qTH:∃fn,Tryz.prog.funcs[fid 260]?=some fn/\qbf Tryz.prog fid fn qQY=true:=⟨Tryz.f75,Tryz.func75,by kernel_rfl⟩
theorem qTG:∃fn,Tryz.prog.funcs[fid 261]?=some fn/\qbf Tryz.prog fid fn qPU=true:=⟨Tryz.f69,Tryz.func69,by kernel_rfl⟩
theorem qTF:∃fn,Tryz.prog.funcs[fid 265]?=some fn/\qbf Tryz.prog fid fn qQX=true:=⟨Tryz.f59,Tryz.func59,by kernel_rfl⟩
theorem qTE:∃fn,Tryz.prog.funcs[fid 266]?=some fn/\qbf Tryz.prog fid fn qQW=true:=⟨Tryz.f62,Tryz.func62,by kernel_rfl⟩
theorem qTD:∃fn,Tryz.prog.funcs[fid 269]?=some fn/\qbf Tryz.prog fid fn qQV=true:=⟨Tryz.f84,Tryz.func84,by kernel_rfl⟩
theorem qTC:∃fn,Tryz.prog.funcs[fid 281]?=some fn/\qbf Tryz.prog fid fn qQU=true:=⟨Tryz.f110,Tryz.func110,by kernel_rfl⟩
theorem qTB:∃fn,Tryz.prog.funcs[fid 282]?=some fn/\qbf Tryz.prog fid fn qQT=true:=⟨Tryz.f93,Tryz.func93,by kernel_rfl⟩
theorem qTA:∃fn,Tryz.prog.funcs[fid 283]?=some fn/\qbf Tryz.prog fid fn qQS=true:=⟨Tryz.f111,Tryz.func111,by kernel_rfl⟩
theorem qTz:∃fn,Tryz.prog.funcs[fid 288]?=some fn/\qbf Tryz.prog fid fn qQR=true:=⟨Tryz.f61,Tryz.func61,by kernel_rfl⟩
theorem qTy:∃fn,Tryz.prog.funcs[fid 289]?=some fn/\qbf Tryz.prog fid fn qPT=true:=⟨Tryz.f85,Tryz.func85,by kernel_rfl⟩
theorem qTx:∃fn,Tryz.prog.funcs[fid 290]?=some fn/\qbf Tryz.prog fid fn qPS=true:=⟨Tryz.f86,Tryz.func86,by kernel_rfl⟩
theorem qTw:∃fn,Tryz.prog.funcs[fid 291]?=some fn/\qbf Tryz.prog fid fn qPR=true:=⟨Tryz.f20,Tryz.func20,by kernel_rfl⟩
theorem qTv:∃fn,Tryz.prog.funcs[fid 292]?=some fn/\qbf Tryz.prog fid fn qPQ=true:=⟨Tryz.f35,Tryz.func35,by kernel_rfl⟩
theorem qTu:∃fn,Tryz.prog.funcs[fid 293]?=some fn/\qbf Tryz.prog fid fn qPP=true:=⟨Tryz.f19,Tryz.func19,by kernel_rfl⟩
theorem qTt:∃fn,Tryz.prog.funcs[fid 294]?=some fn/\qbf Tryz.prog fid fn qQQ=true:=⟨Tryz.f33,Tryz.func33,by kernel_rfl⟩
theorem qTs:∃fn,Tryz.prog.funcs[fid 305]?=some fn/\qbf Tryz.prog fid fn qJE=true:=⟨Tryz.f5,Tryz.func5,by kernel_rfl⟩
theorem qTr:∃fn,Tryz.prog.funcs[fid 306]?=some fn/\qbf Tryz.prog fid fn qGi=true:=⟨Tryz.f21,Tryz.func21,by kernel_rfl⟩
theorem qTq:∃fn,Tryz.prog.funcs[fid 307]?=some fn/\qbf Tryz.prog fid fn qHa=true:=⟨Tryz.f22,Tryz.func22,by kernel_rfl⟩
theorem qTp:∃fn,Tryz.prog.funcs[fid 308]?=some fn/\qbf Tryz.prog fid fn qQP=true:=⟨Tryz.f18,Tryz.func18,by kernel_rfl⟩
theorem qTo:∃fn,Tryz.prog.funcs[fid 309]?=some fn/\qbf Tryz.prog fid fn qQO=true:=⟨Tryz.f37,Tryz.func37,by kernel_rfl⟩
theorem qTn:∃fn,Tryz.prog.funcs[fid 310]?=some fn/\qbf Tryz.prog fid fn qj3=true:=⟨Tryz.f38,Tryz.func38,by kernel_rfl⟩
theorem qTm:∃fn,Tryz.prog.funcs[fid 311]?=some fn/\qbf Tryz.prog fid fn qsm=true:=⟨Tryz.f48,Tryz.func48,by kernel_rfl⟩
theorem qTl:∃fn,Tryz.prog.funcs[fid 312]?=some fn/\qbf Tryz.prog fid fn qQN=true:=⟨Tryz.f49,Tryz.func49,by kernel_rfl⟩
theorem qTk:∃fn,Tryz.prog.funcs[fid 313]?=some fn/\qbf Tryz.prog fid fn qQM=true:=⟨Tryz.f50,Tryz.func50,by kernel_rfl⟩
theorem qTj:∃fn,Tryz.prog.funcs[fid 314]?=some fn/\qbf Tryz.prog fid fn qPO=true:=⟨Tryz.f71,Tryz.func71,by kernel_rfl⟩
theorem qTi:∃fn,Tryz.prog.funcs[fid 315]?=some fn/\qbf Tryz.prog fid fn qQL=true:=⟨Tryz.f72,Tryz.func72,by kernel_rfl⟩
theorem qTh:∃fn,Tryz.prog.funcs[fid 316]?=some fn/\qbf Tryz.prog fid fn qQK=true:=⟨Tryz.f74,Tryz.func74,by kernel_rfl⟩
theorem qTg:∃fn,Tryz.prog.funcs[fid 317]?=some fn/\qbf Tryz.prog fid fn qQJ=true:=⟨Tryz.f40,Tryz.func40,by kernel_rfl⟩
theorem qTf:∃fn,Tryz.prog.funcs[fid 318]?=some fn/\qbf Tryz.prog fid fn quD=true:=⟨Tryz.f41,Tryz.func41,by kernel_rfl⟩
theorem qTe:∃fn,Tryz.prog.funcs[fid 319]?=some fn/\qbf Tryz.prog fid fn qPN=true:=⟨Tryz.f42,Tryz.func42,by kernel_rfl⟩
theorem qTd:∃fn,Tryz.prog.funcs[fid 320]?=some fn/\qbf Tryz.prog fid fn qQI=true:=⟨Tryz.f60,Tryz.func60,by kernel_rfl⟩
theorem qTc:∃fn,Tryz.prog.funcs[fid 321]?=some fn/\qbf Tryz.prog fid fn qsl=true:=⟨Tryz.f63,Tryz.func63,by kernel_rfl⟩
theorem qTb:∃fn,Tryz.prog.funcs[fid 322]?=some fn/\qbf Tryz.prog fid fn qr6=true:=⟨Tryz.f64,Tryz.func64,by kernel_rfl⟩
theorem qTa:∃fn,Tryz.prog.funcs[fid 327]?=some fn/\qbf Tryz.prog fid fn qQH=true:=⟨Tryz.f89,Tryz.func89,by kernel_rfl⟩
theorem qS9:∃fn,Tryz.prog.funcs[fid 330]?=some fn/\qbf Tryz.prog fid fn qMO=true:=⟨Tryz.f58,Tryz.func58,by kernel_rfl⟩
theorem qw4:∀{l:List (Nat×VFn)} {k:Nat} {v:VFn},look l k=some v->(k,v)∈l
 | [],_,_,h=>by simp[look]at h
 |(a,u)::r,k,v,h=>by
  simp only[look]at h;split at h
  ·rename_i hk
   simp at h;subst h;subst hk;simp
  ·exact List.mem_cons_of_mem _ (qw4 h)
theorem qI7:∀q,q∈qPr->∃fn,Tryz.prog.funcs[fid q.1]?=some fn/\qbf Tryz.prog fid fn q.2=true:=
 yc_.2 ⟨qZE,yc_.2 ⟨qZD,yc_.2 ⟨qZC,yc_.2 ⟨qZB,yc_.2 ⟨qZA,yc_.2 ⟨qZz,yc_.2 ⟨qZy,yc_.2 ⟨qZx,yc_.2 ⟨qZw,yc_.2 ⟨qW9,yc_.2 ⟨qW8,yc_.2 ⟨qW7,yc_.2 ⟨qW6,yc_.2 ⟨qW5,yc_.2 ⟨qW4,yc_.2 ⟨qW3,yc_.2 ⟨qW2,yc_.2 ⟨qW1,yc_.2 ⟨qW0,yc_.2 ⟨qWZ,yc_.2 ⟨qWY,yc_.2 ⟨qWX,yc_.2 ⟨qWW,yc_.2 ⟨qWV,yc_.2 ⟨qWU,yc_.2 ⟨qWT,yc_.2 ⟨qWS,yc_.2 ⟨qWR,yc_.2 ⟨qWQ,yc_.2 ⟨qWP,yc_.2 ⟨qWO,yc_.2 ⟨qWN,yc_.2 ⟨qWM,yc_.2 ⟨qWL,yc_.2 ⟨qWK,yc_.2 ⟨qWJ,yc_.2 ⟨qWI,yc_.2 ⟨qWH,yc_.2 ⟨qWG,yc_.2 ⟨qWF,yc_.2 ⟨qWE,yc_.2 ⟨qWD,yc_.2 ⟨qWC,yc_.2 ⟨qT8,yc_.2 ⟨qT7,yc_.2 ⟨qT6,yc_.2 ⟨qT5,yc_.2 ⟨qT4,yc_.2 ⟨qT3,yc_.2 ⟨qT2,yc_.2 ⟨qT1,yc_.2 ⟨qT0,yc_.2 ⟨qTY,yc_.2 ⟨qTX,yc_.2 ⟨qTW,yc_.2 ⟨qTV,yc_.2 ⟨qTU,yc_.2 ⟨qTT,yc_.2 ⟨qTS,yc_.2 ⟨qTR,yc_.2 ⟨qTQ,yc_.2 ⟨qTP,yc_.2 ⟨qTO,yc_.2 ⟨qTN,yc_.2 ⟨qTM,yc_.2 ⟨qTL,yc_.2 ⟨qTK,yc_.2 ⟨qTJ,yc_.2 ⟨qTI,yc_.2 ⟨qTH,yc_.2 ⟨qTG,yc_.2 ⟨qTF,yc_.2 ⟨qTE,yc_.2 ⟨qTD,yc_.2 ⟨qTC,yc_.2 ⟨qTB,yc_.2 ⟨qTA,yc_.2 ⟨qTz,yc_.2 ⟨qTy,yc_.2 ⟨qTx,yc_.2 ⟨qTw,yc_.2 ⟨qTv,yc_.2 ⟨qTu,yc_.2 ⟨qTt,yc_.2 ⟨qTs,yc_.2 ⟨qTr,yc_.2 ⟨qTq,yc_.2 ⟨qTp,yc_.2 ⟨qTo,yc_.2 ⟨qTn,yc_.2 ⟨qTm,yc_.2 ⟨qTl,yc_.2 ⟨qTk,yc_.2 ⟨qTj,yc_.2 ⟨qTi,yc_.2 ⟨qTh,yc_.2 ⟨qTg,yc_.2 ⟨qTf,yc_.2 ⟨qTe,yc_.2 ⟨qTd,yc_.2 ⟨qTc,yc_.2 ⟨qTb,yc_.2 ⟨qTa,yc_.2 ⟨qS9,List.forall_mem_nil _⟩⟩⟩⟩⟩⟩⟩⟩⟩⟩⟩⟩⟩⟩⟩⟩⟩⟩⟩⟩⟩⟩⟩⟩⟩⟩⟩⟩⟩⟩⟩⟩⟩⟩⟩⟩⟩⟩⟩⟩⟩⟩⟩⟩⟩⟩⟩⟩⟩⟩⟩⟩⟩⟩⟩⟩⟩⟩⟩⟩⟩⟩⟩⟩⟩⟩⟩⟩⟩⟩⟩⟩⟩⟩⟩⟩⟩⟩⟩⟩⟩⟩⟩⟩⟩⟩⟩⟩⟩⟩⟩⟩⟩⟩⟩⟩⟩⟩⟩⟩⟩⟩⟩⟩
end Go.Proofs.YtbcbkiaineacpaaGreat.VS
