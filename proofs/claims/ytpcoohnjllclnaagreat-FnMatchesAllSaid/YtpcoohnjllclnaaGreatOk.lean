/- The evaluator's code is the program's. -/
import Derived.Test.YtpcoohnjllclnaaGreatNat1
import Derived.Test.YtpcoohnjllclnaaGreatCode
import Derived.Test.YtpcoohnjllclnaaGreatChecked
import Derived.KernelRfl
set_option linter.unusedVariables false
namespace Go.Proofs.YtpcoohnjllclnaaGreat.VS
open Go.Proofs
def fid:Nat->FuncId
 |1=>42
 |2=>45
 |3=>90
 |4=>31
 |5=>47
 |6=>94
 |7=>60
 |8=>59
 |9=>58
 |11=>41
 |12=>44
 |13=>124
 |14=>117
 |15=>46
 |16=>101
 |17=>100
 |18=>168
 |19=>167
 |20=>102
 |22=>74
 |23=>67
 |24=>118
 |25=>80
 |29=>119
 |30=>69
 |31=>76
 |33=>154
 |34=>127
 |43=>238
 |45=>249
 |46=>251
 |47=>131
 |48=>246
 |50=>227
 |51=>241
 |53=>222
 |54=>130
 |55=>170
 |56=>203
 |59=>123
 |60=>116
 |61=>165
 |62=>166
 |67=>18
 |68=>16
 |69=>108
 |70=>15
 |71=>71
 |72=>70
 |73=>72
 |74=>122
 |75=>82
 |76=>121
 |77=>66
 |78=>68
 |79=>120
 |80=>17
 |81=>77
 |82=>73
 |83=>75
 |84=>125
 |85=>126
 |86=>161
 |102=>36
 |103=>35
 |104=>20
 |105=>81
 |106=>83
 |107=>129
 |108=>132
 |109=>133
 |110=>96
 |111=>147
 |112=>187
 |133=>13
 |134=>14
 |135=>19
 |137=>213
 |141=>107
 |142=>194
 |143=>23
 |144=>21
 |145=>153
 |146=>146
 |147=>164
 |148=>84
 |149=>85
 |150=>86
 |151=>134
 |152=>160
 |153=>145
 |154=>186
 |155=>64
 |156=>62
 |157=>63
 |158=>112
 |159=>103
 |160=>113
 |161=>65
 |162=>104
 |163=>114
 |164=>163
 |165=>155
 |166=>115
 |167=>233
 |168=>79
 |169=>78
 |170=>128
 |171=>169
 |172=>201
 |173=>202
 |174=>229
 |175=>247
 |177=>34
 |180=>95
 |192=>181
 |193=>191
 |197=>223
 |207=>217
 |208=>197
 |212=>220
 |213=>228
 |217=>225
 |218=>226
 |219=>245
 |220=>244
 |221=>159
 |222=>235
 |223=>237
 |224=>236
 |225=>142
 |226=>240
 |227=>239
 |228=>252
 |229=>182
 |230=>250
 |239=>12
 |240=>50
 |241=>49
 |242=>53
 |243=>54
 |244=>61
 |245=>56
 |246=>57
 |247=>106
 |248=>105
 |249=>148
 |250=>149
 |251=>156
 |252=>157
 |253=>158
 |254=>195
 |255=>196
 |256=>198
 |257=>199
 |258=>200
 |259=>224
 |260=>193
 |261=>188
 |262=>92
 |263=>143
 |264=>183
 |265=>136
 |266=>139
 |267=>184
 |268=>185
 |269=>173
 |270=>215
 |271=>216
 |272=>218
 |273=>219
 |274=>221
 |275=>243
 |276=>253
 |277=>255
 |278=>256
 |279=>242
 |280=>234
 |281=>208
 |282=>179
 |283=>209
 |284=>178
 |285=>207
 |286=>206
 |287=>214
 |288=>138
 |289=>174
 |290=>175
 |291=>111
 |292=>162
 |293=>110
 |294=>109
 |295=>10
 |296=>48
 |297=>27
 |298=>28
 |299=>51
 |300=>52
 |301=>91
 |302=>26
 |303=>93
 |304=>144
 |306=>38
 |307=>22
 |308=>55
 |309=>98
 |310=>99
 |311=>150
 |312=>151
 |313=>152
 |314=>189
 |315=>190
 |316=>192
 |317=>87
 |318=>88
 |319=>89
 |320=>137
 |321=>140
 |322=>141
 |323=>180
 |324=>210
 |325=>212
 |326=>211
 |327=>176
 |328=>177
 |329=>205
 |330=>135
 |331=>5
 |332=>30
 |333=>25
 |334=>32
 |335=>33
 |336=>39
 |337=>3
 |373=>11
 |374=>9
 |375=>43
 |376=>29
 |377=>8
 |378=>40
 |379=>7
 |380=>37
 |381=>97
 |382=>6
 |383=>4
 |384=>24
 |_=>0
theorem qXI:∃fn,Tryz.prog.funcs[fid 3]?=some fn/\aN Tryz.prog fid fn v3=true:=⟨Tryz.f90,Tryz.func90,by kernel_rfl⟩
theorem Pj:∃fn,Tryz.prog.funcs[fid 4]?=some fn/\aN Tryz.prog fid fn v4=true:=⟨Tryz.f31,Tryz.func31,by kernel_rfl⟩
theorem UW:∃fn,Tryz.prog.funcs[fid 6]?=some fn/\aN Tryz.prog fid fn v6=true:=⟨Tryz.f94,Tryz.func94,by kernel_rfl⟩
theorem L_:∃fn,Tryz.prog.funcs[fid 13]?=some fn/\aN Tryz.prog fid fn wt=true:=⟨Tryz.f124,Tryz.func124,by kernel_rfl⟩
theorem PT:∃fn,Tryz.prog.funcs[fid 14]?=some fn/\aN Tryz.prog fid fn vB=true:=⟨Tryz.f117,Tryz.func117,by kernel_rfl⟩
theorem M_:∃fn,Tryz.prog.funcs[fid 18]?=some fn/\aN Tryz.prog fid fn ub=true:=⟨Tryz.f168,Tryz.func168,by kernel_rfl⟩
theorem YX:∃fn,Tryz.prog.funcs[fid 19]?=some fn/\aN Tryz.prog fid fn tP=true:=⟨Tryz.f167,Tryz.func167,by kernel_rfl⟩
theorem Nu:∃fn,Tryz.prog.funcs[fid 22]?=some fn/\aN Tryz.prog fid fn v22=true:=⟨Tryz.f74,Tryz.func74,by kernel_rfl⟩
theorem qVu:∃fn,Tryz.prog.funcs[fid 23]?=some fn/\aN Tryz.prog fid fn v23=true:=⟨Tryz.f67,Tryz.func67,by kernel_rfl⟩
theorem Qp:∃fn,Tryz.prog.funcs[fid 24]?=some fn/\aN Tryz.prog fid fn yA=true:=⟨Tryz.f118,Tryz.func118,by kernel_rfl⟩
theorem PQ:∃fn,Tryz.prog.funcs[fid 25]?=some fn/\aN Tryz.prog fid fn po=true:=⟨Tryz.f80,Tryz.func80,by kernel_rfl⟩
theorem T9:∃fn,Tryz.prog.funcs[fid 29]?=some fn/\aN Tryz.prog fid fn ve=true:=⟨Tryz.f119,Tryz.func119,by kernel_rfl⟩
theorem Ue:∃fn,Tryz.prog.funcs[fid 30]?=some fn/\aN Tryz.prog fid fn pK=true:=⟨Tryz.f69,Tryz.func69,by kernel_rfl⟩
theorem Ys:∃fn,Tryz.prog.funcs[fid 31]?=some fn/\aN Tryz.prog fid fn qZ=true:=⟨Tryz.f76,Tryz.func76,by kernel_rfl⟩
theorem Vz:∃fn,Tryz.prog.funcs[fid 33]?=some fn/\aN Tryz.prog fid fn qK=true:=⟨Tryz.f154,Tryz.func154,by kernel_rfl⟩
theorem V6:∃fn,Tryz.prog.funcs[fid 34]?=some fn/\aN Tryz.prog fid fn qY=true:=⟨Tryz.f127,Tryz.func127,by kernel_rfl⟩
theorem Wt:∃fn,Tryz.prog.funcs[fid 47]?=some fn/\aN Tryz.prog fid fn mS=true:=⟨Tryz.f131,Tryz.func131,by kernel_rfl⟩
theorem N5:∃fn,Tryz.prog.funcs[fid 54]?=some fn/\aN Tryz.prog fid fn oD=true:=⟨Tryz.f130,Tryz.func130,by kernel_rfl⟩
theorem Ov:∃fn,Tryz.prog.funcs[fid 55]?=some fn/\aN Tryz.prog fid fn ml=true:=⟨Tryz.f170,Tryz.func170,by kernel_rfl⟩
theorem XR:∃fn,Tryz.prog.funcs[fid 56]?=some fn/\aN Tryz.prog fid fn lD=true:=⟨Tryz.f203,Tryz.func203,by kernel_rfl⟩
theorem OC:∃fn,Tryz.prog.funcs[fid 59]?=some fn/\aN Tryz.prog fid fn xu=true:=⟨Tryz.f123,Tryz.func123,by kernel_rfl⟩
theorem NK:∃fn,Tryz.prog.funcs[fid 60]?=some fn/\aN Tryz.prog fid fn te=true:=⟨Tryz.f116,Tryz.func116,by kernel_rfl⟩
theorem TQ:∃fn,Tryz.prog.funcs[fid 61]?=some fn/\aN Tryz.prog fid fn tS=true:=⟨Tryz.f165,Tryz.func165,by kernel_rfl⟩
theorem PG:∃fn,Tryz.prog.funcs[fid 62]?=some fn/\aN Tryz.prog fid fn tL=true:=⟨Tryz.f166,Tryz.func166,by kernel_rfl⟩
theorem Ws:∃fn,Tryz.prog.funcs[fid 67]?=some fn/\aN Tryz.prog fid fn vR=true:=⟨Tryz.f18,Tryz.func18,by kernel_rfl⟩
theorem WA:∃fn,Tryz.prog.funcs[fid 68]?=some fn/\aN Tryz.prog fid fn tD=true:=⟨Tryz.f16,Tryz.func16,by kernel_rfl⟩
theorem Vx:∃fn,Tryz.prog.funcs[fid 70]?=some fn/\aN Tryz.prog fid fn o_=true:=⟨Tryz.f15,Tryz.func15,by kernel_rfl⟩
theorem UK:∃fn,Tryz.prog.funcs[fid 71]?=some fn/\aN Tryz.prog fid fn sS=true:=⟨Tryz.f71,Tryz.func71,by kernel_rfl⟩
theorem Ux:∃fn,Tryz.prog.funcs[fid 72]?=some fn/\aN Tryz.prog fid fn rh=true:=⟨Tryz.f70,Tryz.func70,by kernel_rfl⟩
theorem VF:∃fn,Tryz.prog.funcs[fid 73]?=some fn/\aN Tryz.prog fid fn vN=true:=⟨Tryz.f72,Tryz.func72,by kernel_rfl⟩
theorem ZE:∃fn,Tryz.prog.funcs[fid 74]?=some fn/\aN Tryz.prog fid fn oS=true:=⟨Tryz.f122,Tryz.func122,by kernel_rfl⟩
theorem XL:∃fn,Tryz.prog.funcs[fid 75]?=some fn/\aN Tryz.prog fid fn wF=true:=⟨Tryz.f82,Tryz.func82,by kernel_rfl⟩
theorem MZ:∃fn,Tryz.prog.funcs[fid 76]?=some fn/\aN Tryz.prog fid fn sU=true:=⟨Tryz.f121,Tryz.func121,by kernel_rfl⟩
theorem V1:∃fn,Tryz.prog.funcs[fid 77]?=some fn/\aN Tryz.prog fid fn wI=true:=⟨Tryz.f66,Tryz.func66,by kernel_rfl⟩
theorem qU4:∃fn,Tryz.prog.funcs[fid 78]?=some fn/\aN Tryz.prog fid fn lC=true:=⟨Tryz.f68,Tryz.func68,by kernel_rfl⟩
theorem Y8:∃fn,Tryz.prog.funcs[fid 79]?=some fn/\aN Tryz.prog fid fn uQ=true:=⟨Tryz.f120,Tryz.func120,by kernel_rfl⟩
theorem Mz:∃fn,Tryz.prog.funcs[fid 80]?=some fn/\aN Tryz.prog fid fn ny=true:=⟨Tryz.f17,Tryz.func17,by kernel_rfl⟩
theorem O3:∃fn,Tryz.prog.funcs[fid 81]?=some fn/\aN Tryz.prog fid fn ou=true:=⟨Tryz.f77,Tryz.func77,by kernel_rfl⟩
theorem Qv:∃fn,Tryz.prog.funcs[fid 82]?=some fn/\aN Tryz.prog fid fn wu=true:=⟨Tryz.f73,Tryz.func73,by kernel_rfl⟩
theorem OB:∃fn,Tryz.prog.funcs[fid 83]?=some fn/\aN Tryz.prog fid fn ly=true:=⟨Tryz.f75,Tryz.func75,by kernel_rfl⟩
theorem Y7:∃fn,Tryz.prog.funcs[fid 84]?=some fn/\aN Tryz.prog fid fn l5=true:=⟨Tryz.f125,Tryz.func125,by kernel_rfl⟩
theorem Yi:∃fn,Tryz.prog.funcs[fid 85]?=some fn/\aN Tryz.prog fid fn t8=true:=⟨Tryz.f126,Tryz.func126,by kernel_rfl⟩
theorem RZ:∃fn,Tryz.prog.funcs[fid 104]?=some fn/\aN Tryz.prog fid fn tO=true:=⟨Tryz.f20,Tryz.func20,by kernel_rfl⟩
theorem qSC:∃fn,Tryz.prog.funcs[fid 105]?=some fn/\aN Tryz.prog fid fn qD=true:=⟨Tryz.f81,Tryz.func81,by kernel_rfl⟩
theorem V7:∃fn,Tryz.prog.funcs[fid 106]?=some fn/\aN Tryz.prog fid fn Be=true:=⟨Tryz.f83,Tryz.func83,by kernel_rfl⟩
theorem Q1:∃fn,Tryz.prog.funcs[fid 107]?=some fn/\aN Tryz.prog fid fn BI=true:=⟨Tryz.f129,Tryz.func129,by kernel_rfl⟩
theorem Vg:∃fn,Tryz.prog.funcs[fid 108]?=some fn/\aN Tryz.prog fid fn ms=true:=⟨Tryz.f132,Tryz.func132,by kernel_rfl⟩
theorem XC:∃fn,Tryz.prog.funcs[fid 133]?=some fn/\aN Tryz.prog fid fn wk=true:=⟨Tryz.f13,Tryz.func13,by kernel_rfl⟩
theorem Yn:∃fn,Tryz.prog.funcs[fid 134]?=some fn/\aN Tryz.prog fid fn wZ=true:=⟨Tryz.f14,Tryz.func14,by kernel_rfl⟩
theorem LZ:∃fn,Tryz.prog.funcs[fid 135]?=some fn/\aN Tryz.prog fid fn xU=true:=⟨Tryz.f19,Tryz.func19,by kernel_rfl⟩
theorem Yt:∃fn,Tryz.prog.funcs[fid 143]?=some fn/\aN Tryz.prog fid fn qm=true:=⟨Tryz.f23,Tryz.func23,by kernel_rfl⟩
theorem QF:∃fn,Tryz.prog.funcs[fid 144]?=some fn/\aN Tryz.prog fid fn rb=true:=⟨Tryz.f21,Tryz.func21,by kernel_rfl⟩
theorem Xn:∃fn,Tryz.prog.funcs[fid 147]?=some fn/\aN Tryz.prog fid fn tV=true:=⟨Tryz.f164,Tryz.func164,by kernel_rfl⟩
theorem S2:∃fn,Tryz.prog.funcs[fid 148]?=some fn/\aN Tryz.prog fid fn v148=true:=⟨Tryz.f84,Tryz.func84,by kernel_rfl⟩
theorem Qn:∃fn,Tryz.prog.funcs[fid 149]?=some fn/\aN Tryz.prog fid fn x_=true:=⟨Tryz.f85,Tryz.func85,by kernel_rfl⟩
theorem SN:∃fn,Tryz.prog.funcs[fid 150]?=some fn/\aN Tryz.prog fid fn uf=true:=⟨Tryz.f86,Tryz.func86,by kernel_rfl⟩
theorem V2:∃fn,Tryz.prog.funcs[fid 151]?=some fn/\aN Tryz.prog fid fn tj=true:=⟨Tryz.f134,Tryz.func134,by kernel_rfl⟩
theorem Tv:∃fn,Tryz.prog.funcs[fid 153]?=some fn/\aN Tryz.prog fid fn vz=true:=⟨Tryz.f145,Tryz.func145,by kernel_rfl⟩
theorem Qf:∃fn,Tryz.prog.funcs[fid 154]?=some fn/\aN Tryz.prog fid fn ul=true:=⟨Tryz.f186,Tryz.func186,by kernel_rfl⟩
theorem qSm:∃fn,Tryz.prog.funcs[fid 155]?=some fn/\aN Tryz.prog fid fn wL=true:=⟨Tryz.f64,Tryz.func64,by kernel_rfl⟩
theorem Ub:∃fn,Tryz.prog.funcs[fid 156]?=some fn/\aN Tryz.prog fid fn xa=true:=⟨Tryz.f62,Tryz.func62,by kernel_rfl⟩
theorem OE:∃fn,Tryz.prog.funcs[fid 157]?=some fn/\aN Tryz.prog fid fn jI=true:=⟨Tryz.f63,Tryz.func63,by kernel_rfl⟩
theorem MU:∃fn,Tryz.prog.funcs[fid 158]?=some fn/\aN Tryz.prog fid fn wT=true:=⟨Tryz.f112,Tryz.func112,by kernel_rfl⟩
theorem OZ:∃fn,Tryz.prog.funcs[fid 159]?=some fn/\aN Tryz.prog fid fn yi=true:=⟨Tryz.f103,Tryz.func103,by kernel_rfl⟩
theorem T2:∃fn,Tryz.prog.funcs[fid 160]?=some fn/\aN Tryz.prog fid fn tM=true:=⟨Tryz.f113,Tryz.func113,by kernel_rfl⟩
theorem Yb:∃fn,Tryz.prog.funcs[fid 161]?=some fn/\aN Tryz.prog fid fn pE=true:=⟨Tryz.f65,Tryz.func65,by kernel_rfl⟩
theorem PH:∃fn,Tryz.prog.funcs[fid 162]?=some fn/\aN Tryz.prog fid fn yH=true:=⟨Tryz.f104,Tryz.func104,by kernel_rfl⟩
theorem Pt:∃fn,Tryz.prog.funcs[fid 163]?=some fn/\aN Tryz.prog fid fn wd=true:=⟨Tryz.f114,Tryz.func114,by kernel_rfl⟩
theorem XH:∃fn,Tryz.prog.funcs[fid 164]?=some fn/\aN Tryz.prog fid fn tH=true:=⟨Tryz.f163,Tryz.func163,by kernel_rfl⟩
theorem PX:∃fn,Tryz.prog.funcs[fid 165]?=some fn/\aN Tryz.prog fid fn pO=true:=⟨Tryz.f155,Tryz.func155,by kernel_rfl⟩
theorem PU:∃fn,Tryz.prog.funcs[fid 166]?=some fn/\aN Tryz.prog fid fn yn=true:=⟨Tryz.f115,Tryz.func115,by kernel_rfl⟩
theorem U0:∃fn,Tryz.prog.funcs[fid 168]?=some fn/\aN Tryz.prog fid fn oO=true:=⟨Tryz.f79,Tryz.func79,by kernel_rfl⟩
theorem Y5:∃fn,Tryz.prog.funcs[fid 169]?=some fn/\aN Tryz.prog fid fn HX=true:=⟨Tryz.f78,Tryz.func78,by kernel_rfl⟩
theorem QT:∃fn,Tryz.prog.funcs[fid 170]?=some fn/\aN Tryz.prog fid fn oE=true:=⟨Tryz.f128,Tryz.func128,by kernel_rfl⟩
theorem OS:∃fn,Tryz.prog.funcs[fid 171]?=some fn/\aN Tryz.prog fid fn nD=true:=⟨Tryz.f169,Tryz.func169,by kernel_rfl⟩
theorem qR6:∃fn,Tryz.prog.funcs[fid 172]?=some fn/\aN Tryz.prog fid fn kM=true:=⟨Tryz.f201,Tryz.func201,by kernel_rfl⟩
theorem QO:∃fn,Tryz.prog.funcs[fid 173]?=some fn/\aN Tryz.prog fid fn lh=true:=⟨Tryz.f202,Tryz.func202,by kernel_rfl⟩
theorem Pi:∃fn,Tryz.prog.funcs[fid 174]?=some fn/\aN Tryz.prog fid fn uM=true:=⟨Tryz.f229,Tryz.func229,by kernel_rfl⟩
theorem MJ:∃fn,Tryz.prog.funcs[fid 175]?=some fn/\aN Tryz.prog fid fn yK=true:=⟨Tryz.f247,Tryz.func247,by kernel_rfl⟩
theorem RA:∃fn,Tryz.prog.funcs[fid 192]?=some fn/\aN Tryz.prog fid fn kR=true:=⟨Tryz.f181,Tryz.func181,by kernel_rfl⟩
theorem Wg:∃fn,Tryz.prog.funcs[fid 265]?=some fn/\aN Tryz.prog fid fn vG=true:=⟨Tryz.f136,Tryz.func136,by kernel_rfl⟩
theorem LO:∃fn,Tryz.prog.funcs[fid 266]?=some fn/\aN Tryz.prog fid fn tI=true:=⟨Tryz.f139,Tryz.func139,by kernel_rfl⟩
theorem Nn:∃fn,Tryz.prog.funcs[fid 269]?=some fn/\aN Tryz.prog fid fn xd=true:=⟨Tryz.f173,Tryz.func173,by kernel_rfl⟩
theorem Wy:∃fn,Tryz.prog.funcs[fid 281]?=some fn/\aN Tryz.prog fid fn tR=true:=⟨Tryz.f208,Tryz.func208,by kernel_rfl⟩
theorem Tu:∃fn,Tryz.prog.funcs[fid 282]?=some fn/\aN Tryz.prog fid fn vK=true:=⟨Tryz.f179,Tryz.func179,by kernel_rfl⟩
theorem Us:∃fn,Tryz.prog.funcs[fid 283]?=some fn/\aN Tryz.prog fid fn xt=true:=⟨Tryz.f209,Tryz.func209,by kernel_rfl⟩
theorem Tw:∃fn,Tryz.prog.funcs[fid 288]?=some fn/\aN Tryz.prog fid fn uB=true:=⟨Tryz.f138,Tryz.func138,by kernel_rfl⟩
theorem QJ:∃fn,Tryz.prog.funcs[fid 289]?=some fn/\aN Tryz.prog fid fn qB=true:=⟨Tryz.f174,Tryz.func174,by kernel_rfl⟩
theorem MY:∃fn,Tryz.prog.funcs[fid 290]?=some fn/\aN Tryz.prog fid fn pX=true:=⟨Tryz.f175,Tryz.func175,by kernel_rfl⟩
theorem Mv:∃fn,Tryz.prog.funcs[fid 307]?=some fn/\aN Tryz.prog fid fn lU=true:=⟨Tryz.f22,Tryz.func22,by kernel_rfl⟩
theorem Sv:∃fn,Tryz.prog.funcs[fid 317]?=some fn/\aN Tryz.prog fid fn sY=true:=⟨Tryz.f87,Tryz.func87,by kernel_rfl⟩
theorem S8:∃fn,Tryz.prog.funcs[fid 318]?=some fn/\aN Tryz.prog fid fn gU=true:=⟨Tryz.f88,Tryz.func88,by kernel_rfl⟩
theorem N8:∃fn,Tryz.prog.funcs[fid 319]?=some fn/\aN Tryz.prog fid fn r_=true:=⟨Tryz.f89,Tryz.func89,by kernel_rfl⟩
theorem Wp:∃fn,Tryz.prog.funcs[fid 320]?=some fn/\aN Tryz.prog fid fn vD=true:=⟨Tryz.f137,Tryz.func137,by kernel_rfl⟩
theorem Ox:∃fn,Tryz.prog.funcs[fid 321]?=some fn/\aN Tryz.prog fid fn gp=true:=⟨Tryz.f140,Tryz.func140,by kernel_rfl⟩
theorem L6:∃fn,Tryz.prog.funcs[fid 322]?=some fn/\aN Tryz.prog fid fn fU=true:=⟨Tryz.f141,Tryz.func141,by kernel_rfl⟩
theorem W8:∃fn,Tryz.prog.funcs[fid 327]?=some fn/\aN Tryz.prog fid fn xh=true:=⟨Tryz.f176,Tryz.func176,by kernel_rfl⟩
theorem M4:∃fn,Tryz.prog.funcs[fid 330]?=some fn/\aN Tryz.prog fid fn ng=true:=⟨Tryz.f135,Tryz.func135,by kernel_rfl⟩
theorem Mu:∃fn,Tryz.prog.funcs[fid 337]?=some fn/\aN Tryz.prog fid fn lR=true:=⟨Tryz.f3,Tryz.func3,by kernel_rfl⟩
theorem sD:∀{l:List (Nat×VFn)} {k:Nat} {v:VFn},look l k=some v->(k,v)∈l
 | [],_,_,h=>by simp[look]at h
 |(a,u)::r,k,v,h=>by
  simp only[look]at h;split at h
  ·rename_i b
   simp at h;subst h;subst b;simp
  ·exact dH _ (sD h)
theorem Jq:nR.all (fun q=>I_ (rW xF q.1) q.2.code)=true:=by kernel_rfl
theorem Fp:∀q,q∈nR->∃fn,Tryz.prog.funcs[fid q.1]?=some fn/\aN Tryz.prog fid fn q.2=true:=
 aL qXI<|aL Pj<|aL UW<|aL L_<|aL PT<|aL M_<|aL YX<|aL Nu<|aL qVu<|aL Qp<|aL PQ<|aL T9<|aL Ue<|aL Ys<|aL Vz<|aL V6<|aL Wt<|aL N5<|aL Ov<|aL XR<|aL OC<|aL NK<|aL TQ<|aL PG<|aL Ws<|aL WA<|aL Vx<|aL UK<|aL Ux<|aL VF<|aL ZE<|aL XL<|aL MZ<|aL V1<|aL qU4<|aL Y8<|aL Mz<|aL O3<|aL Qv<|aL OB<|aL Y7<|aL Yi<|aL RZ<|aL qSC<|aL V7<|aL Q1<|aL Vg<|aL XC<|aL Yn<|aL LZ<|aL Yt<|aL QF<|aL Xn<|aL S2<|aL Qn<|aL SN<|aL V2<|aL Tv<|aL Qf<|aL qSm<|aL Ub<|aL OE<|aL MU<|aL OZ<|aL T2<|aL Yb<|aL PH<|aL Pt<|aL XH<|aL PX<|aL PU<|aL U0<|aL QT<|aL OS<|aL qR6<|aL QO<|aL Pi<|aL MJ<|aL RA<|aL Wg<|aL LO<|aL Nn<|aL Wy<|aL Tu<|aL Us<|aL Tw<|aL QJ<|aL MY<|aL Mv<|aL Sv<|aL S8<|aL N8<|aL Wp<|aL Ox<|aL L6<|aL W8<|aL M4<|aL Mu<|to _
theorem GP:EnvOK Tryz.prog fid ⟨look nR,fun _=>none,fun _=>none,rW xF⟩:=⟨fun k vf _ h=>Fp (k,vf) (sD h),fun k f h=>by simp at h,fun k sf h=>by simp at h,by kernel_rfl,fun k vf h=>bu.1 Jq (k,vf) (sD h)⟩
end Go.Proofs.YtpcoohnjllclnaaGreat.VS
