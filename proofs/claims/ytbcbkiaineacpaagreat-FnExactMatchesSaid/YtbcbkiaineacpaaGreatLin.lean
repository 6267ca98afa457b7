/- Which registers of each function may own rows; the functions for the evaluator without names. -/
import Derived.Test.YtbcbkiaineacpaaGreatNat2
import Derived.Test.YtbcbkiaineacpaaGreatCode
import Derived.KernelRfl
set_option linter.unusedVariables false
namespace Go.Proofs.YtbcbkiaineacpaaGreat.VS
def qOb:List (Nat×List Nat):=[(2,[12,14]),(8,[2,3,20,22]),(12,[2,3,22]),(25,[15]),(78,[70]),(145,[24,26]),(146,[9,18,24,25,26,28]),(147,[4]),(148,[13,19,21]),(150,[5,7]),(151,[2,3,6,12,13,15,16,17,19]),(153,[13,27,36,41,42,51,52,53,54,63,64,65,67]),(154,[0,1,4,6,22,25,26,27,28,29,30,31,34,35]),(164,[6,7]),(169,[5,8,15,18,30,32,33,34,35,36,37,45,47]),(172,[46,50]),(173,[70,74,122,126]),(175,[29,35]),(192,[14,15,27,43,46,48]),(193,[15,28,38,43]),(197,[2,3,5,12,17,18,19,20]),(250,[2,3,5,12,23,24,25,26,27]),(260,[4,5,6,10,11,16]),(266,[2,3,6,12,13,18,19,20,21,23]),(282,[4,14,22,24]),(289,[21,25]),(305,[48,50]),(306,[6,8,10,25,26,27,30,31,32,33,34,50,54]),(307,[6,23,24,27,28,29,30,31,39]),(310,[7,10,46,48,49,50,55,69,73,116,118,119,120,121,125,140,145,146,151,152,153,154,155,157,158]),(311,[9,12,15,35,58,62,64,68,69,70,71,72,93,94,103,107,108,114,115,116,117,118,129,130,135,136,137,140,144,145,147,148,149,150]),(313,[6,7,10,28,31,32,33,34,35,39,40,41,44,47,48,49,50,51]),(315,[4,5,6,7,9,10,22,26,27,28,29,33,34,35,36,37]),(316,[4,6,9,24,27,28]),(318,[43,45,46,47,52]),(321,[18,19,37,49,55,56,57,58,59,64,68,69,72,106,107,115,121,122,123,124,125,126,127,128]),(322,[12,16,20,21,58,60,61,62,63,74,81,94,95,96,99,100]),(327,[10,16,17,18,19])]
def qqM:List (Nat×List Nat)->Nat->List Nat
 | [],_=>[]
 |(k,v)::r,n=>if n=k then v else qqM r n
noncomputable def XV:XEnv:=⟨E,qqM qOb,qlu qIu⟩
@[simp] theorem qZN:XV.lin 1=[]:=by kernel_rfl
theorem qMB:XV.env.code 1=some v1:=by kernel_rfl
@[simp] theorem qZM:XV.lin 2=[12,14]:=by kernel_rfl
theorem qMA:XV.env.code 2=some v2:=by kernel_rfl
@[simp] theorem qZL:XV.lin 3=[]:=by kernel_rfl
theorem qMz:XV.env.code 3=some v3:=by kernel_rfl
@[simp] theorem qZK:XV.lin 4=[]:=by kernel_rfl
theorem qMy:XV.env.code 4=some v4:=by kernel_rfl
@[simp] theorem qZJ:XV.lin 5=[]:=by kernel_rfl
theorem qMx:XV.env.code 5=some v5:=by kernel_rfl
@[simp] theorem qZI:XV.lin 6=[]:=by kernel_rfl
theorem qAg:XV.env.code 6=some v6:=by kernel_rfl
@[simp] theorem qZH:XV.lin 7=[]:=by kernel_rfl
theorem qMw:XV.env.code 7=some v7:=by kernel_rfl
@[simp] theorem qXc:XV.lin 8=[2,3,20,22]:=by kernel_rfl
theorem qMv:XV.env.code 8=some v8:=by kernel_rfl
@[simp] theorem qZG:XV.lin 9=[]:=by kernel_rfl
theorem qMu:XV.env.code 9=some v9:=by kernel_rfl
@[simp] theorem qZc:XV.lin 11=[]:=by kernel_rfl
theorem qG3:XV.env.code 11=some v11:=by kernel_rfl
@[simp] theorem qUi:XV.lin 12=[2,3,22]:=by kernel_rfl
theorem qG2:XV.env.code 12=some v12:=by kernel_rfl
@[simp] theorem qZb:XV.lin 13=[]:=by kernel_rfl
theorem qG1:XV.env.code 13=some v13:=by kernel_rfl
@[simp] theorem qZa:XV.lin 14=[]:=by kernel_rfl
theorem qG0:XV.env.code 14=some v14:=by kernel_rfl
@[simp] theorem qY9:XV.lin 15=[]:=by kernel_rfl
theorem qGZ:XV.env.code 15=some v15:=by kernel_rfl
@[simp] theorem qY8:XV.lin 16=[]:=by kernel_rfl
theorem qGY:XV.env.code 16=some v16:=by kernel_rfl
@[simp] theorem qY7:XV.lin 17=[]:=by kernel_rfl
theorem qGX:XV.env.code 17=some v17:=by kernel_rfl
@[simp] theorem qY6:XV.lin 18=[]:=by kernel_rfl
theorem qGW:XV.env.code 18=some v18:=by kernel_rfl
@[simp] theorem qUh:XV.lin 19=[]:=by kernel_rfl
theorem qGV:XV.env.code 19=some v19:=by kernel_rfl
@[simp] theorem qY5:XV.lin 20=[]:=by kernel_rfl
theorem qGU:XV.env.code 20=some v20:=by kernel_rfl
@[simp] theorem qY4:XV.lin 22=[]:=by kernel_rfl
theorem qGT:XV.env.code 22=some v22:=by kernel_rfl
@[simp] theorem qY3:XV.lin 23=[]:=by kernel_rfl
theorem qGS:XV.env.code 23=some v23:=by kernel_rfl
@[simp] theorem qY2:XV.lin 24=[]:=by kernel_rfl
theorem qGR:XV.env.code 24=some v24:=by kernel_rfl
@[simp] theorem qUg:XV.lin 25=[15]:=by kernel_rfl
theorem qGQ:XV.env.code 25=some v25:=by kernel_rfl
@[simp] theorem qY1:XV.lin 29=[]:=by kernel_rfl
theorem qGP:XV.env.code 29=some v29:=by kernel_rfl
@[simp] theorem qY0:XV.lin 30=[]:=by kernel_rfl
theorem qGO:XV.env.code 30=some v30:=by kernel_rfl
@[simp] theorem qYZ:XV.lin 31=[]:=by kernel_rfl
theorem qGN:XV.env.code 31=some v31:=by kernel_rfl
@[simp] theorem qYY:XV.lin 33=[]:=by kernel_rfl
theorem qGM:XV.env.code 33=some v33:=by kernel_rfl
@[simp] theorem qYX:XV.lin 34=[]:=by kernel_rfl
theorem qGL:XV.env.code 34=some v34:=by kernel_rfl
@[simp] theorem qYW:XV.lin 59=[]:=by kernel_rfl
theorem qGK:XV.env.code 59=some v59:=by kernel_rfl
@[simp] theorem qYV:XV.lin 60=[]:=by kernel_rfl
theorem qGJ:XV.env.code 60=some v60:=by kernel_rfl
@[simp] theorem qYU:XV.lin 61=[]:=by kernel_rfl
theorem qGI:XV.env.code 61=some v61:=by kernel_rfl
@[simp] theorem qYT:XV.lin 62=[]:=by kernel_rfl
theorem qGH:XV.env.code 62=some v62:=by kernel_rfl
@[simp] theorem qYS:XV.lin 69=[]:=by kernel_rfl
theorem qGG:XV.env.code 69=some v69:=by kernel_rfl
@[simp] theorem qYR:XV.lin 70=[]:=by kernel_rfl
theorem qGF:XV.env.code 70=some v70:=by kernel_rfl
@[simp] theorem qYQ:XV.lin 75=[]:=by kernel_rfl
theorem qGE:XV.env.code 75=some v75:=by kernel_rfl
@[simp] theorem qUf:XV.lin 77=[]:=by kernel_rfl
theorem qGD:XV.env.code 77=some v77:=by kernel_rfl
@[simp] theorem qD7:XV.lin 78=[70]:=by kernel_rfl
theorem qGC:XV.env.code 78=some v78:=by kernel_rfl
@[simp] theorem qYP:XV.lin 79=[]:=by kernel_rfl
theorem qGB:XV.env.code 79=some v79:=by kernel_rfl
@[simp] theorem qYO:XV.lin 80=[]:=by kernel_rfl
theorem qGA:XV.env.code 80=some v80:=by kernel_rfl
@[simp] theorem qUe:XV.lin 82=[]:=by kernel_rfl
theorem qGz:XV.env.code 82=some v82:=by kernel_rfl
@[simp] theorem qD6:XV.lin 83=[]:=by kernel_rfl
theorem qGy:XV.env.code 83=some v83:=by kernel_rfl
@[simp] theorem qYN:XV.lin 84=[]:=by kernel_rfl
theorem qGx:XV.env.code 84=some v84:=by kernel_rfl
@[simp] theorem qYM:XV.lin 86=[]:=by kernel_rfl
theorem qGw:XV.env.code 86=some v86:=by kernel_rfl
@[simp] theorem qOC:XV.lin 145=[24,26]:=by kernel_rfl
theorem qA6:XV.env.code 145=some qRe:=by kernel_rfl
@[simp] theorem qOB:XV.lin 146=[9,18,24,25,26,28]:=by kernel_rfl
theorem qA5:XV.env.code 146=some qRd:=by kernel_rfl
@[simp] theorem qXG:XV.lin 147=[4]:=by kernel_rfl
theorem qA4:XV.env.code 147=some qRc:=by kernel_rfl
@[simp] theorem qOA:XV.lin 148=[13,19,21]:=by kernel_rfl
theorem qA3:XV.env.code 148=some qRb:=by kernel_rfl
@[simp] theorem qXF:XV.lin 150=[5,7]:=by kernel_rfl
theorem qA2:XV.env.code 150=some qRa:=by kernel_rfl
@[simp] theorem qOz:XV.lin 151=[2,3,6,12,13,15,16,17,19]:=by kernel_rfl
theorem qA1:XV.env.code 151=some qQ9:=by kernel_rfl
@[simp] theorem qEe:XV.lin 153=[13,27,36,41,42,51,52,53,54,63,64,65,67]:=by kernel_rfl
theorem qA0:XV.env.code 153=some qQ8:=by kernel_rfl
@[simp] theorem qOy:XV.lin 154=[0,1,4,6,22,25,26,27,28,29,30,31,34,35]:=by kernel_rfl
theorem qAZ:XV.env.code 154=some qQ7:=by kernel_rfl
@[simp] theorem qXE:XV.lin 164=[6,7]:=by kernel_rfl
theorem qAY:XV.env.code 164=some qQ6:=by kernel_rfl
@[simp] theorem qXD:XV.lin 170=[]:=by kernel_rfl
theorem qpu:XV.env.code 170=some qMQ:=by kernel_rfl
@[simp] theorem qXC:XV.lin 171=[]:=by kernel_rfl
theorem qpt:XV.env.code 171=some qMP:=by kernel_rfl
@[simp] theorem qXB:XV.lin 172=[46,50]:=by kernel_rfl
theorem qjZ:XV.env.code 172=some qHe:=by kernel_rfl
@[simp] theorem qXA:XV.lin 173=[70,74,122,126]:=by kernel_rfl
theorem qjY:XV.env.code 173=some qHd:=by kernel_rfl
@[simp] theorem qXz:XV.lin 174=[]:=by kernel_rfl
theorem qAX:XV.env.code 174=some qQ5:=by kernel_rfl
@[simp] theorem qXy:XV.lin 175=[29,35]:=by kernel_rfl
theorem qAW:XV.env.code 175=some qQ4:=by kernel_rfl
@[simp] theorem qXx:XV.lin 192=[14,15,27,43,46,48]:=by kernel_rfl
theorem qAV:XV.env.code 192=some qHc:=by kernel_rfl
@[simp] theorem qXw:XV.lin 193=[15,28,38,43]:=by kernel_rfl
theorem qAU:XV.env.code 193=some qHb:=by kernel_rfl
@[simp] theorem qOw:XV.lin 197=[2,3,5,12,17,18,19,20]:=by kernel_rfl
theorem qAT:XV.env.code 197=some qQ3:=by kernel_rfl
@[simp] theorem qOv:XV.lin 242=[]:=by kernel_rfl
theorem qAS:XV.env.code 242=some qQ2:=by kernel_rfl
@[simp] theorem qXv:XV.lin 243=[]:=by kernel_rfl
theorem qAR:XV.env.code 243=some qPY:=by kernel_rfl
@[simp] theorem qEd:XV.lin 244=[]:=by kernel_rfl
theorem qAQ:XV.env.code 244=some qPX:=by kernel_rfl
@[simp] theorem qEc:XV.lin 245=[]:=by kernel_rfl
theorem qAP:XV.env.code 245=some qPW:=by kernel_rfl
@[simp] theorem qEb:XV.lin 246=[]:=by kernel_rfl
theorem qAO:XV.env.code 246=some qPV:=by kernel_rfl
@[simp] theorem qOu:XV.lin 249=[]:=by kernel_rfl
theorem qAN:XV.env.code 249=some qQ1:=by kernel_rfl
@[simp] theorem qOt:XV.lin 250=[2,3,5,12,23,24,25,26,27]:=by kernel_rfl
theorem qAM:XV.env.code 250=some qQ0:=by kernel_rfl
@[simp] theorem qOs:XV.lin 259=[]:=by kernel_rfl
theorem qAL:XV.env.code 259=some qQZ:=by kernel_rfl
@[simp] theorem qXu:XV.lin 260=[4,5,6,10,11,16]:=by kernel_rfl
theorem qAK:XV.env.code 260=some qQY:=by kernel_rfl
@[simp] theorem qOr:XV.lin 261=[]:=by kernel_rfl
theorem qAJ:XV.env.code 261=some qPU:=by kernel_rfl
@[simp] theorem qXt:XV.lin 265=[]:=by kernel_rfl
theorem qAI:XV.env.code 265=some qQX:=by kernel_rfl
@[simp] theorem qOq:XV.lin 266=[2,3,6,12,13,18,19,20,21,23]:=by kernel_rfl
theorem qAH:XV.env.code 266=some qQW:=by kernel_rfl
@[simp] theorem qOo:XV.lin 269=[]:=by kernel_rfl
theorem qAG:XV.env.code 269=some qQV:=by kernel_rfl
@[simp] theorem qOn:XV.lin 281=[]:=by kernel_rfl
theorem qAF:XV.env.code 281=some qQU:=by kernel_rfl
@[simp] theorem qOm:XV.lin 282=[4,14,22,24]:=by kernel_rfl
theorem qAE:XV.env.code 282=some qQT:=by kernel_rfl
@[simp] theorem qXs:XV.lin 283=[]:=by kernel_rfl
theorem qAD:XV.env.code 283=some qQS:=by kernel_rfl
@[simp] theorem qXr:XV.lin 288=[]:=by kernel_rfl
theorem qAC:XV.env.code 288=some qQR:=by kernel_rfl
@[simp] theorem qOl:XV.lin 289=[21,25]:=by kernel_rfl
theorem qAB:XV.env.code 289=some qPT:=by kernel_rfl
@[simp] theorem qXq:XV.lin 290=[]:=by kernel_rfl
theorem qAA:XV.env.code 290=some qPS:=by kernel_rfl
@[simp] theorem qEa:XV.lin 291=[]:=by kernel_rfl
theorem qAz:XV.env.code 291=some qPR:=by kernel_rfl
@[simp] theorem qD9:XV.lin 292=[]:=by kernel_rfl
theorem qAy:XV.env.code 292=some qPQ:=by kernel_rfl
@[simp] theorem qXp:XV.lin 293=[]:=by kernel_rfl
theorem qAx:XV.env.code 293=some qPP:=by kernel_rfl
@[simp] theorem qXo:XV.lin 294=[]:=by kernel_rfl
theorem qAw:XV.env.code 294=some qQQ:=by kernel_rfl
@[simp] theorem qXn:XV.lin 305=[48,50]:=by kernel_rfl
theorem qAv:XV.env.code 305=some qJE:=by kernel_rfl
@[simp] theorem qXm:XV.lin 306=[6,8,10,25,26,27,30,31,32,33,34,50,54]:=by kernel_rfl
theorem qAu:XV.env.code 306=some qGi:=by kernel_rfl
@[simp] theorem qXl:XV.lin 307=[6,23,24,27,28,29,30,31,39]:=by kernel_rfl
theorem qAt:XV.env.code 307=some qHa:=by kernel_rfl
@[simp] theorem qXk:XV.lin 308=[]:=by kernel_rfl
theorem qAs:XV.env.code 308=some qQP:=by kernel_rfl
@[simp] theorem qOk:XV.lin 309=[]:=by kernel_rfl
theorem qAr:XV.env.code 309=some qQO:=by kernel_rfl
@[simp] theorem qOj:XV.lin 310=[7,10,46,48,49,50,55,69,73,116,118,119,120,121,125,140,145,146,151,152,153,154,155,157,158]:=by kernel_rfl
theorem qcL:XV.env.code 310=some qj3:=by kernel_rfl
@[simp] theorem qD8:XV.lin 311=[9,12,15,35,58,62,64,68,69,70,71,72,93,94,103,107,108,114,115,116,117,118,129,130,135,136,137,140,144,145,147,148,149,150]:=by kernel_rfl
theorem qg7:XV.env.code 311=some qsm:=by kernel_rfl
@[simp] theorem qOi:XV.lin 312=[]:=by kernel_rfl
theorem qAq:XV.env.code 312=some qQN:=by kernel_rfl
@[simp] theorem qOh:XV.lin 313=[6,7,10,28,31,32,33,34,35,39,40,41,44,47,48,49,50,51]:=by kernel_rfl
theorem qAp:XV.env.code 313=some qQM:=by kernel_rfl
@[simp] theorem qXj:XV.lin 314=[]:=by kernel_rfl
theorem qAo:XV.env.code 314=some qPO:=by kernel_rfl
@[simp] theorem qOg:XV.lin 315=[4,5,6,7,9,10,22,26,27,28,29,33,34,35,36,37]:=by kernel_rfl
theorem qAn:XV.env.code 315=some qQL:=by kernel_rfl
@[simp] theorem qOf:XV.lin 316=[4,6,9,24,27,28]:=by kernel_rfl
theorem qAm:XV.env.code 316=some qQK:=by kernel_rfl
@[simp] theorem qXi:XV.lin 317=[]:=by kernel_rfl
theorem qAl:XV.env.code 317=some qQJ:=by kernel_rfl
@[simp] theorem qXh:XV.lin 318=[43,45,46,47,52]:=by kernel_rfl
theorem qfS:XV.env.code 318=some quD:=by kernel_rfl
@[simp] theorem qXg:XV.lin 319=[]:=by kernel_rfl
theorem qAk:XV.env.code 319=some qPN:=by kernel_rfl
@[simp] theorem qXf:XV.lin 320=[]:=by kernel_rfl
theorem qAj:XV.env.code 320=some qQI:=by kernel_rfl
@[simp] theorem qtE:XV.lin 321=[18,19,37,49,55,56,57,58,59,64,68,69,72,106,107,115,121,122,123,124,125,126,127,128]:=by kernel_rfl
theorem qg6:XV.env.code 321=some qsl:=by kernel_rfl
@[simp] theorem qOe:XV.lin 322=[12,16,20,21,58,60,61,62,63,74,81,94,95,96,99,100]:=by kernel_rfl
theorem qew:XV.env.code 322=some qr6:=by kernel_rfl
@[simp] theorem qXe:XV.lin 327=[10,16,17,18,19]:=by kernel_rfl
theorem qAi:XV.env.code 327=some qQH:=by kernel_rfl
@[simp] theorem qXd:XV.lin 330=[]:=by kernel_rfl
theorem qAh:XV.env.code 330=some qMO:=by kernel_rfl
@[simp] theorem qOx:XV.lin 169=[5,8,15,18,30,32,33,34,35,36,37,45,47]:=by kernel_rfl
theorem qz9:XV.env.code 169=none:=by kernel_rfl
theorem qz5:XV.env.spec 169=some qpP:=by kernel_rfl
theorem qZi(X:XEnv)(T:List Nat)(na:Nat)(live:List Nat)(r:List (Nat×AV))(B:qal):qau X T (yT na live qWu) ⟨r,B⟩=qcU live (qb9 (qac X) X.lin T true B.length [z6 34 2 2,zD 35 1 34 [0],z5 36 5,zC 37 3 35 36 [1,2],zI 38 3 37 [3],z6 39 2 3,zD 40 1 39 [5],z5 41 5,zC 42 3 40 41 [6,7],zI 43 3 42 [8],zM 44 3 38 43 [4,9],zy 45 44 [10]] ⟨r,B++List.replicate na none⟩):=qaN X T na live qWu (by kernel_rfl) r B
theorem qI5(X:XEnv)(T:List Nat)(na:Nat)(live:List Nat)(r:List (Nat×AV))(B:qal):qau X T (yT na live qNl) ⟨r,B⟩=qcU live (qb9 (qac X) X.lin T true B.length [z6 51 2 2,zD 52 1 51 [0],z5 53 7,zC 54 3 52 53 [1,2],zI 55 3 54 [3],z6 56 2 3,zD 57 1 56 [5],z5 58 7,zC 59 3 57 58 [6,7],zI 60 3 59 [8],zM 61 6 55 60 [4,9],zQ 8 61 [0,1,2,3,4,5,6,7,8,9,10]] ⟨r,B++List.replicate na none⟩):=qaN X T na live qNl (by kernel_rfl) r B
theorem qZP(X:XEnv)(T:List Nat)(na:Nat)(live:List Nat)(r:List (Nat×AV))(B:qal):qau X T (yT na live qWm) ⟨r,B⟩=qcU live (qb9 (qac X) X.lin T true B.length [z5 17 0,z5 18 5,zC 19 3 17 18 [0,1],zI 20 3 19 [2],z5 21 1,z5 22 5,zC 23 3 21 22 [4,5],zI 24 3 23 [6],zM 25 5 20 24 [3,7],zy 26 25 [8]] ⟨r,B++List.replicate na none⟩):=qaN X T na live qWm (by kernel_rfl) r B
theorem qX0(X:XEnv)(T:List Nat)(na:Nat)(live:List Nat)(r:List (Nat×AV))(B:qal):qau X T (yT na live qNL) ⟨r,B⟩=qcU live (qb9 (qac X) X.lin T true B.length [z5 17 0,z5 18 5,zC 19 3 17 18 [0,1],zI 20 3 19 [2],z5 21 1,z5 22 5,zC 23 3 21 22 [4,5],zI 24 3 23 [6],zM 25 20 20 24 [3,7],zy 26 25 [8]] ⟨r,B++List.replicate na none⟩):=qaN X T na live qNL (by kernel_rfl) r B
theorem qXZ(X:XEnv)(T:List Nat)(na:Nat)(live:List Nat)(r:List (Nat×AV))(B:qal):qau X T (yT na live qNn) ⟨r,B⟩=qcU live (qb9 (qac X) X.lin T true B.length [z5 17 0,z5 18 5,zC 19 4 17 18 [0,1],zI 20 4 19 [2],z5 21 1,z5 22 5,zC 23 4 21 22 [4,5],zI 24 4 23 [6],zM 25 86 20 24 [3,7],zy 26 25 [8]] ⟨r,B++List.replicate na none⟩):=qaN X T na live qNn (by kernel_rfl) r B
theorem qFh(X:XEnv)(T:List Nat)(na:Nat)(live:List Nat)(r:List (Nat×AV))(B:qal):qau X T (yT na live qH4) ⟨r,B⟩=qcU live (qb9 (qac X) X.lin T true B.length [z5 18 0,z6 19 0 3,zD 20 1 19 [1],zM 21 29 18 20 [0,2],zy 22 21 [3],zQ 23 22 [3,4],zR 24 1 3 23 [5],zY 25 1 24 23 [5,6],z0o 26 25 0 23 [5,7],ze 27 23 26 [5,8],zQ 28 27 [5,9],zO 29 0 28 [10],zR 30 0 3 28 [10],zY 31 1 30 28 [10,12],zq 32 3 29 31 28 [10,11,13],zR 33 2 32 28 [10,14],zY 34 1 33 28 [10,15],z0k 35 34 28 [10,16],zO 36 35 28 [10,17],zX 37 2 3 36 [18],zV 38 1 37 36 [18,19],z0Z 39 38 36 [18,20],zk 40 0 36 [18],zX 41 0 3 36 [18],zV 42 1 41 36 [18,23],zo 43 3 40 42 36 [18,22,24],zX 44 1 43 36 [18,25],zV 45 1 44 36 [18,26],z1F 46 39 45 36 [18,21,27],zl 47 36 46 28 [10,18,28],ze 48 28 47 [10,29],zQ 49 48 [18,30],zO 50 0 49 [31],zR 51 0 3 49 [31],zY 52 1 51 49 [31,33],zq 53 3 50 52 49 [31,32,34],zR 54 2 53 49 [31,35],zY 55 1 54 49 [31,36],zO 56 55 49 [31,37],zX 57 2 3 56 [38],zV 58 1 57 56 [38,39],z0Z 59 58 56 [38,40],z0K 60 59 2 56 [38,41],zl 61 56 60 49 [31,38,42],ze 62 49 61 [31,43]] ⟨r,B++List.replicate na none⟩):=qaN X T na live qH4 (by kernel_rfl) r B
theorem qFg(X:XEnv)(T:List Nat)(na:Nat)(live:List Nat)(r:List (Nat×AV))(B:qal):qau X T (yT na live qH2) ⟨r,B⟩=qcU live (qb9 (qac X) X.lin T true B.length [z5 71 0,zB 72 3 6,zM 73 78 71 72 [0,1],zy 74 73 [2],zQ 75 74 [2,3],zO 76 0 75 [4],zR 77 0 3 75 [4],zY 78 1 77 75 [4,6],zq 79 3 76 78 75 [4,5,7],zR 80 2 79 75 [4,8],zY 81 1 80 75 [4,9],zO 82 81 75 [4,10],zX 83 0 6 82 [11],zV 84 1 83 82 [11,12],zX 85 0 3 82 [11],zV 86 1 85 82 [11,14],z1G 87 84 86 82 [11,13,15],zk 88 87 82 [11,16],zO 89 5 88 [17],z0p 90 89 0 88 [17,18],zO 91 90 88 [17,19],z00 92 3 6 91 [20],zX 93 2 3 91 [20],zV 94 1 93 91 [20,22],zk 95 5 91 [20],z0L 96 95 1 91 [20,24],zo 97 3 94 96 91 [20,23,25],z00 98 3 97 91 [20,26],z0P 99 79 92 98 91 [20,21,27],zl 100 91 99 88 [17,20,28],z0m 101 88 100 82 [11,17,29],zl 102 82 101 75 [4,11,30],ze 103 75 102 [4,31]] ⟨r,B++List.replicate na none⟩):=qaN X T na live qH2 (by kernel_rfl) r B
theorem qFf(X:XEnv)(T:List Nat)(na:Nat)(live:List Nat)(r:List (Nat×AV))(B:qal):qau X T (yT na live qHZ) ⟨r,B⟩=qcU live (qb9 (qac X) X.lin T true B.length [z6 18 0 3,zD 19 1 18 [0],z5 20 0,z1Y 21 20 [2],z09 22 21 1 [3],⟨some 23,.call true (.c (.fn 31 [])) [.t 19,.c (.d (.int .i64 0)),.t 22],none,[1,4]⟩,zy 24 23 [5],zQ 25 24 [5,6],zR 26 1 3 25 [7],zY 27 1 26 25 [7,8],z0o 28 27 0 25 [7,9],ze 29 25 28 [7,10],zQ 30 29 [7,11],zO 31 0 30 [12],zR 32 0 3 30 [12],zY 33 1 32 30 [12,14],zq 34 3 31 33 30 [12,13,15],zR 35 2 34 30 [12,16],zY 36 1 35 30 [12,17],z0k 37 36 30 [12,18],zO 38 37 30 [12,19],zX 39 2 3 38 [20],zV 40 1 39 38 [20,21],z0Z 41 40 38 [20,22],zk 42 0 38 [20],zX 43 0 3 38 [20],zV 44 1 43 38 [20,25],zo 45 3 42 44 38 [20,24,26],zX 46 1 45 38 [20,27],zV 47 1 46 38 [20,28],z1F 48 41 47 38 [20,23,29],zl 49 38 48 30 [12,20,30],ze 50 30 49 [12,31],zQ 51 50 [20,32],zO 52 0 51 [33],zR 53 0 3 51 [33],zY 54 1 53 51 [33,35],zq 55 3 52 54 51 [33,34,36],zR 56 2 55 51 [33,37],zY 57 1 56 51 [33,38],zO 58 57 51 [33,39],zX 59 2 3 58 [40],zV 60 1 59 58 [40,41],z0Z 61 60 58 [40,42],z0K 62 61 2 58 [40,43],zl 63 58 62 51 [33,40,44],ze 64 51 63 [33,45]] ⟨r,B++List.replicate na none⟩):=qaN X T na live qHZ (by kernel_rfl) r B
theorem qrq(X:XEnv)(T:List Nat)(na:Nat)(live:List Nat)(r:List (Nat×AV))(B:qal):qau X T (yT na live qHX) ⟨r,B⟩=qcU live (qb9 (qac X) X.lin T true B.length [z5 72 0,z6 73 0 3,zD 74 1 73 [1],zC 75 3 72 74 [0,2],zf 76 2 75 [3],zD 77 1 76 [4],zQ 78 77 [5],zX 79 2 3 78 [6],zV 80 1 79 78 [6,7],zk 81 5 78 [6],zo 82 3 80 81 78 [6,8,9],zX 83 0 82 78 [6,10],zV 84 1 83 78 [6,11],zX 85 0 3 78 [6],zV 86 1 85 78 [6,13],z1G 87 84 86 78 [6,12,14],zk 88 87 78 [6,15],zO 89 5 88 [16],z0p 90 89 0 88 [16,17],zO 91 90 88 [16,18],zX 92 2 3 91 [19],zV 93 1 92 91 [19,20],zk 94 5 91 [19],zo 95 3 93 94 91 [19,21,22],z00 96 3 95 91 [19,23],zX 97 2 3 91 [19],zV 98 1 97 91 [19,25],zk 99 5 91 [19],z0L 100 99 1 91 [19,27],zo 101 3 98 100 91 [19,26,28],z00 102 3 101 91 [19,29],z0P 103 84 96 102 91 [19,24,30],zl 104 91 103 88 [16,19,31],z0m 105 88 104 78 [6,16,32],z0Q 106 78 105 [6,33],zQ 107 106 [31,34],zO 108 0 107 [35],zR 109 2 3 107 [35],zY 110 1 109 107 [35,37],zO 111 5 107 [35],zq 112 3 110 111 107 [35,38,39],z0u 113 3 112 107 [35,40],z0w 114 83 108 113 107 [35,36,41],z0k 115 114 107 [35,42],ze 116 107 115 [35,43]] ⟨r,B++List.replicate na none⟩):=qaN X T na live qHX (by kernel_rfl) r B
theorem qLY(X:XEnv)(T:List Nat)(na:Nat)(live:List Nat)(r:List (Nat×AV))(B:qal):qau X T (yT na live qBX) ⟨r,B⟩=qcU live (qb9 (qac X) X.lin T true B.length [z6 47 2 2,zD 48 1 47 [0],z5 49 5,zC 50 3 48 49 [1,2],zI 51 3 50 [3],z6 52 2 3,zD 53 1 52 [5],z5 54 5,zC 55 3 53 54 [6,7],zI 56 3 55 [8],zM 57 3 51 56 [4,9],zy 58 57 [10]] ⟨r,B++List.replicate na none⟩):=qaN X T na live qBX (by kernel_rfl) r B
theorem qUW(X:XEnv)(T:List Nat)(na:Nat)(live:List Nat)(r:List (Nat×AV))(B:qal):qau X T (yT na live qBW) ⟨r,B⟩=qcU live (qb9 (qac X) X.lin T true B.length [z6 59 2 2,zD 60 1 59 [0],z5 61 5,zC 62 3 60 61 [1,2],zI 63 3 62 [3],z6 64 2 3,zD 65 1 64 [5],z5 66 5,zC 67 3 65 66 [6,7],zI 68 3 67 [8],zM 69 84 63 68 [4,9],zQ 4 69 [0,1,2,3,4,5,6,7,8,9,10]] ⟨r,B++List.replicate na none⟩):=qaN X T na live qBW (by kernel_rfl) r B
theorem qU7(X:XEnv)(T:List Nat)(na:Nat)(live:List Nat)(r:List (Nat×AV))(B:qal):qau X T (yT na live qDJ) ⟨r,B⟩=qcU live (qb9 (qac X) X.lin T true B.length [z6 17 2 3,zD 18 1 17 [0],z6 19 2 1,zD 20 1 19 [2],z5 21 4,zC 22 3 20 21 [3,4],zI 23 3 22 [5],zU 24 146 23 [6],zg 25 3 0 0 1 0 24 [7],z0A 26 3 40 18 25 [1,7,8],zf 27 2 3 [0,1,2,3,4,5,6,7,8,9],zm 1 27 26 [0,1,2,3,4,5,6,7,8,9,10]] ⟨r,B++List.replicate na none⟩):=qaN X T na live qDJ (by kernel_rfl) r B
theorem qU6(X:XEnv)(T:List Nat)(na:Nat)(live:List Nat)(r:List (Nat×AV))(B:qal):qau X T (.regionF true na live qDB) ⟨r,B⟩=qcU live (xFs (qac X) X.lin T true B.length [
 .one (z6 35 2 5),.one (zD 36 1 35 [0]),.one (z6 37 2 7),
 .el 38 37 39 (.t 8) 40 3 41 [2] [] [3,4] [5],.one ⟨some 42,.call false (.c (.fn 154 [])) [.t 36,.t 41],none,[1,6]⟩,.one (zf 43 2 5 [0,1,2,3,4,5,6,7]),.one (zm 1 43 42 [0,1,2,3,4,5,6,7,8])] ⟨r,B++List.replicate na none⟩):=qMh X T na live qDB (by kernel_rfl) r B
theorem qFo(X:XEnv)(T:List Nat)(na:Nat)(live:List Nat)(r:List (Nat×AV))(B:qal):qau X T (yT na live qDA) ⟨r,B⟩=qcU live (qb9 (qac X) X.lin T true B.length [z5 7 5,z5 8 0,z1Y 9 8 [1],⟨some 10,.bin .lss (.t 7) (.t 9),none,[0,2]⟩,zQ 11 10 [3],z00 12 3 3 11 [4],zk 13 0 11 [4],zk 14 5 11 [4],zo 15 3 13 14 11 [4,6,7],z00 16 3 15 11 [4,8],z0P 17 84 12 16 11 [4,5,9],⟨some 18,.not (.t 17),some (11,true),[4,10]⟩,z0Q 19 11 18 [4,11]] ⟨r,B++List.replicate na none⟩):=qaN X T na live qDA (by kernel_rfl) r B
theorem qL2(X:XEnv)(T:List Nat)(na:Nat)(live:List Nat)(r:List (Nat×AV))(B:qal):qau X T (yT na live qwx) ⟨r,B⟩=qcU live (qb9 (qac X) X.lin T true B.length [z5 18 9,z5 19 1,z1X 20 18 19 [0,1],zQ 21 20 [2],zk 22 3 21 [3],zk 23 0 21 [3],zk 24 9 21 [3],zo 25 3 23 24 21 [3,5,6],z00 26 3 25 21 [3,7],zk 27 0 21 [3],zk 28 9 21 [3],z0L 29 28 1 21 [3,10],zo 30 3 27 29 21 [3,9,11],z00 31 3 30 21 [3,12],⟨some 32,.call false (.t 22) [.t 26,.t 31],some (21,true),[3,4,8,13]⟩,z0K 33 32 0 21 [3,14],z0Q 34 21 33 [3,15]] ⟨r,B++List.replicate na none⟩):=qaN X T na live qwx (by kernel_rfl) r B
theorem qU5(X:XEnv)(T:List Nat)(na:Nat)(live:List Nat)(r:List (Nat×AV))(B:qal):qau X T (yT na live qww) ⟨r,B⟩=qcU live (qb9 (qac X) X.lin T true B.length [z5 37 0,z5 38 9,z5 39 0,z5 40 9,z09 41 40 1 [3],z5 42 0,z5 43 9,z09 44 43 1 [6],zC 45 3 42 44 [5,7],zI 46 3 45 [8],z5 47 0,z5 48 9,zC 49 3 47 48 [10,11],zI 50 3 49 [12],zC 51 3 37 38 [0,1,5,6,7,8,9,13],zm 3 51 46 [0,1,5,6,7,8,9,13,14],zC 52 3 39 41 [0,1,2,3,4,5,6,7,8,9,10,11,12,13,14,15],zm 3 52 50 [0,1,2,3,4,5,6,7,8,9,10,11,12,13,14,15,16]] ⟨r,B++List.replicate na none⟩):=qaN X T na live qww (by kernel_rfl) r B
theorem qU4(X:XEnv)(T:List Nat)(na:Nat)(live:List Nat)(r:List (Nat×AV))(B:qal):qau X T (yT na live qwu) ⟨r,B⟩=qcU live (qb9 (qac X) X.lin T true B.length [z5 40 4,z5 41 0,z5 42 12,zC 43 3 41 42 [1,2],zI 44 3 43 [3],z5 45 0,z5 46 1,zC 47 3 45 46 [5,6],zI 48 3 47 [7],z0r 49 40 44 48 [0,4,8],z0T 50 49 0 [9]] ⟨r,B++List.replicate na none⟩):=qaN X T na live qwu (by kernel_rfl) r B
theorem qPp(X:XEnv)(T:List Nat)(na:Nat)(live:List Nat)(r:List (Nat×AV))(B:qal):qau X T (yT na live qor) ⟨r,B⟩=qcU live (qb9 (qac X) X.lin T true B.length [z5 61 0,z5 62 13,z5 63 0,z5 64 13,z0F 65 64 1 [3],z5 66 0,z5 67 13,z0F 68 67 1 [6],zC 69 3 66 68 [5,7],zI 70 3 69 [8],z5 71 0,z5 72 13,zC 73 3 71 72 [10,11],zI 74 3 73 [12],zC 75 3 61 62 [0,1,5,6,7,8,9,13],zm 3 75 70 [0,1,5,6,7,8,9,13,14],zC 76 3 63 65 [0,1,2,3,4,5,6,7,8,9,10,11,12,13,14,15],zm 3 76 74 [0,1,2,3,4,5,6,7,8,9,10,11,12,13,14,15,16]] ⟨r,B++List.replicate na none⟩):=qaN X T na live qor (by kernel_rfl) r B
theorem qFn(X:XEnv)(T:List Nat)(na:Nat)(live:List Nat)(r:List (Nat×AV))(B:qal):qau X T (yT na live qoo) ⟨r,B⟩=qcU live (qb9 (qac X) X.lin T true B.length [z5 92 4,z5 93 0,z5 94 2,zC 95 3 93 94 [1,2],zI 96 3 95 [3],z5 97 0,z5 98 16,zC 99 3 97 98 [5,6],zI 100 3 99 [7],z0r 101 92 96 100 [0,4,8],z0T 102 101 0 [9],zy 103 102 [10]] ⟨r,B++List.replicate na none⟩):=qaN X T na live qoo (by kernel_rfl) r B
theorem qPo(X:XEnv)(T:List Nat)(na:Nat)(live:List Nat)(r:List (Nat×AV))(B:qal):qau X T (yT na live qon) ⟨r,B⟩=qcU live (qb9 (qac X) X.lin T true B.length [z5 113 0,z5 114 17,z5 115 0,z5 116 17,z09 117 116 1 [3],z5 118 0,z5 119 17,z09 120 119 1 [6],zC 121 3 118 120 [5,7],zI 122 3 121 [8],z5 123 0,z5 124 17,zC 125 3 123 124 [10,11],zI 126 3 125 [12],zC 127 3 113 114 [0,1,5,6,7,8,9,13],zm 3 127 122 [0,1,5,6,7,8,9,13,14],zC 128 3 115 117 [0,1,2,3,4,5,6,7,8,9,10,11,12,13,14,15],zm 3 128 126 [0,1,2,3,4,5,6,7,8,9,10,11,12,13,14,15,16]] ⟨r,B++List.replicate na none⟩):=qaN X T na live qon (by kernel_rfl) r B
theorem qFm(X:XEnv)(T:List Nat)(na:Nat)(live:List Nat)(r:List (Nat×AV))(B:qal):qau X T (yT na live qol) ⟨r,B⟩=qcU live (qb9 (qac X) X.lin T true B.length [z5 158 4,z5 159 0,z5 160 22,z5 161 23,⟨some 162,.bin .sub (.t 160) (.t 161),none,[2,3]⟩,zC 163 3 159 162 [1,4],zI 164 3 163 [5],z5 165 0,z5 166 23,zC 167 3 165 166 [7,8],zI 168 3 167 [9],z0r 169 158 164 168 [0,6,10],z0T 170 169 0 [11],zy 171 170 [12]] ⟨r,B++List.replicate na none⟩):=qaN X T na live qol (by kernel_rfl) r B
theorem qU3(X:XEnv)(T:List Nat)(na:Nat)(live:List Nat)(r:List (Nat×AV))(B:qal):qau X T (yT na live qws) ⟨r,B⟩=qcU live (qb9 (qac X) X.lin T true B.length [z5 16 0,z5 17 1,z5 18 10,z0d 19 17 18 [1,2],z5 20 0,z5 21 2,z5 22 10,z0d 23 21 22 [5,6],z5 24 0,z5 25 2,z5 26 10,z0d 27 25 26 [9,10],zC 28 3 24 27 [8,11],zI 29 3 28 [12],z5 30 0,z5 31 1,z5 32 10,z0d 33 31 32 [15,16],zC 34 3 30 33 [14,17],zI 35 3 34 [18],zC 36 3 16 19 [0,1,2,3,8,9,10,11,12,13,19],zm 3 36 29 [0,1,2,3,8,9,10,11,12,13,19,20],zC 37 3 20 23 [0,1,2,3,4,5,6,7,8,9,10,11,12,13,14,15,16,17,18,19,20,21],zm 3 37 35 [0,1,2,3,4,5,6,7,8,9,10,11,12,13,14,15,16,17,18,19,20,21,22]] ⟨r,B++List.replicate na none⟩):=qaN X T na live qws (by kernel_rfl) r B
theorem qU2(X:XEnv)(T:List Nat)(na:Nat)(live:List Nat)(r:List (Nat×AV))(B:qal):qau X T (yT na live qC1) ⟨r,B⟩=qcU live (qb9 (qac X) X.lin T true B.length [z5 17 0,z5 18 5,zC 19 1 17 18 [0,1],zD 20 1 19 [2],z5 21 1,z5 22 5,zC 23 1 21 22 [4,5],zD 24 1 23 [6],zM 25 69 20 24 [3,7],zy 26 25 [8]] ⟨r,B++List.replicate na none⟩):=qaN X T na live qC1 (by kernel_rfl) r B
theorem qU1(X:XEnv)(T:List Nat)(na:Nat)(live:List Nat)(r:List (Nat×AV))(B:qal):qau X T (yT na live qCM) ⟨r,B⟩=qcU live (qb9 (qac X) X.lin T true B.length [z5 12 3,z5 13 0,z5 14 4,zC 15 4 13 14 [1,2],zf 16 0 15 [3],zD 17 1 16 [4],z5 18 0,z5 19 4,zC 20 4 18 19 [6,7],zf 21 1 20 [8],zI 22 3 21 [9],zU 23 146 22 [10],z0R 24 0 0 0 0 1 17 1 3 23 [5,11],z0N 25 4 0 0 0 1 0 24 [12],z0A 26 4 48 12 25 [0,11,13],zQ 3 26 [0,1,2,3,4,5,6,7,8,9,10,11,12,13,14]] ⟨r,B++List.replicate na none⟩):=qaN X T na live qCM (by kernel_rfl) r B
theorem qL1(X:XEnv)(T:List Nat)(na:Nat)(live:List Nat)(r:List (Nat×AV))(B:qal):qau X T (yT na live qCL) ⟨r,B⟩=qcU live (qb9 (qac X) X.lin T true B.length [z5 12 0,z5 13 5,zC 14 3 12 13 [0,1],zI 15 3 14 [2],zB 16 3 3,zM 17 3 15 16 [3,4]] ⟨r,B++List.replicate na none⟩):=qaN X T na live qCL (by kernel_rfl) r B
theorem qFl(X:XEnv)(T:List Nat)(na:Nat)(live:List Nat)(r:List (Nat×AV))(B:qal):qau X T (yT na live qCG) ⟨r,B⟩=qcU live (qb9 (qac X) X.lin T true B.length [z5 17 0,z5 18 5,zC 19 4 17 18 [0,1],zf 20 0 19 [2],zD 21 1 20 [3],z5 22 1,z5 23 5,zC 24 4 22 23 [5,6],zf 25 0 24 [7],zD 26 1 25 [8],⟨some 27,.bin .neq (.t 21) (.t 26),none,[4,9]⟩,zQ 28 27 [10],zO 29 0 28 [11],zO 30 5 28 [11],zq 31 4 29 30 28 [11,12,13],zR 32 1 31 28 [11,14],z0u 33 3 32 28 [11,15],zO 34 1 28 [11],zO 35 5 28 [11],zq 36 4 34 35 28 [11,17,18],zR 37 1 36 28 [11,19],z0u 38 3 37 28 [11,20],z0w 39 3 33 38 28 [11,16,21],z0k 40 39 28 [11,22],ze 41 28 40 [11,23]] ⟨r,B++List.replicate na none⟩):=qaN X T na live qCG (by kernel_rfl) r B
theorem qU0(X:XEnv)(T:List Nat)(na:Nat)(live:List Nat)(r:List (Nat×AV))(B:qal):qau X T (yT na live qCC) ⟨r,B⟩=qcU live (qb9 (qac X) X.lin T true B.length [z5 13 3,z6 14 0 5,zD 15 1 14 [1],z6 16 1 5,zI 17 3 16 [3],zU 18 150 17 [4],z0R 19 0 0 0 0 1 15 1 3 18 [2,5],z0N 20 4 0 0 0 1 0 19 [6],z0A 21 4 48 13 20 [0,5,7],zQ 3 21 [0,1,2,3,4,5,6,7,8]] ⟨r,B++List.replicate na none⟩):=qaN X T na live qCC (by kernel_rfl) r B
theorem qPn(X:XEnv)(T:List Nat)(na:Nat)(live:List Nat)(r:List (Nat×AV))(B:qal):qau X T (yT na live qs2) ⟨r,B⟩=qcU live (qb9 (qac X) X.lin T true B.length [z5 36 0,zU 37 12 36 [0],zB 38 3 4,zU 39 2 38 [1,2],zB 40 3 5,zU 41 2 40 [3,4],zx 42 306 37 39 41 [1,3,5],zQ 35 42 [6],z0z 43 35 0 [7],z0z 44 35 1 [7],zQ 8 43 [0,1,2,3,4,5,6,7,8],zQ 9 44 [0,1,2,3,4,5,6,7,8,9,10]] ⟨r,B++List.replicate na none⟩):=qaN X T na live qs2 (by kernel_rfl) r B
theorem qPm(X:XEnv)(T:List Nat)(na:Nat)(live:List Nat)(r:List (Nat×AV))(B:qal):qau X T (yT na live qs1) ⟨r,B⟩=qcU live (qb9 (qac X) X.lin T true B.length [zB 72 3 11,zB 73 3 4,zU 74 2 73 [1],z15 75 5 72 74 [0,2],zy 76 75 [3]] ⟨r,B++List.replicate na none⟩):=qaN X T na live qs1 (by kernel_rfl) r B
theorem qPl(X:XEnv)(T:List Nat)(na:Nat)(live:List Nat)(r:List (Nat×AV))(B:qal):qau X T (yT na live qs0) ⟨r,B⟩=qcU live (qb9 (qac X) X.lin T true B.length [zB 77 3 12,zB 78 3 5,zU 79 2 78 [1],z15 80 5 77 79 [0,2],zy 81 80 [3]] ⟨r,B++List.replicate na none⟩):=qaN X T na live qs0 (by kernel_rfl) r B
theorem qPk(X:XEnv)(T:List Nat)(na:Nat)(live:List Nat)(r:List (Nat×AV))(B:qal):qau X T (yT na live qsZ) ⟨r,B⟩=qcU live (qb9 (qac X) X.lin T true B.length [z5 116 0,zU 117 12 116 [0],zB 118 3 4,zU 119 2 118 [1,2],zB 120 3 5,zU 121 2 120 [3,4],zx 122 307 117 119 121 [1,3,5],zQ 115 122 [6],z0z 123 115 0 [7],z0z 124 115 1 [7],zQ 18 123 [0,1,2,3,4,5,6,7,8],zQ 19 124 [0,1,2,3,4,5,6,7,8,9,10]] ⟨r,B++List.replicate na none⟩):=qaN X T na live qsZ (by kernel_rfl) r B
theorem qUZ(X:XEnv)(T:List Nat)(na:Nat)(live:List Nat)(r:List (Nat×AV))(B:qal):qau X T (yT na live qCo) ⟨r,B⟩=qcU live (qb9 (qac X) X.lin T true B.length [z5 42 0,z5 43 0,zw 44 43 [1],zf 45 1 44 [2],zD 46 1 45 [3],z5 47 2,zU 48 250 47 [5],z17 49 1 1 0 48 [6],z0A 50 1 24 46 49 [4,6,7],zw 51 42 [0,1,2,3,4,5,6,7,8],zf 52 1 51 [0,1,2,3,4,5,6,7,8,9],zm 1 52 50 [0,1,2,3,4,5,6,7,8,10]] ⟨r,B++List.replicate na none⟩):=qaN X T na live qCo (by kernel_rfl) r B
theorem qno(X:XEnv)(T:List Nat)(na:Nat)(live:List Nat)(r:List (Nat×AV))(B:qal):qau X T (yT na live qCn) ⟨r,B⟩=qcU live (qb9 (qac X) X.lin T true B.length [z6 66 1 6,zD 67 1 66 [0],z02 68 3 67 0 [1],zI 69 3 68 [2],z6 70 2 6,zD 71 1 70 [4],z02 72 3 71 0 [5],zI 73 3 72 [6],zK 8 0 0 0,zK 9 1 0 0,z0J 3 8 69 [0,1,2,3,8,9],z0J 3 9 73 [0,1,2,3,4,5,6,7,8,9,10]] ⟨r,B++List.replicate na none⟩):=qaN X T na live qCn (by kernel_rfl) r B
theorem qFk(X:XEnv)(T:List Nat)(na:Nat)(live:List Nat)(r:List (Nat×AV))(B:qal):qau X T (yT na live qsY) ⟨r,B⟩=qcU live (qb9 (qac X) X.lin T true B.length [z5 90 2,z6 91 1 8,zD 92 1 91 [1],zM 93 145 90 92 [0,2],zB 94 3 9,zM 95 3 93 94 [3,4]] ⟨r,B++List.replicate na none⟩):=qaN X T na live qsY (by kernel_rfl) r B
theorem qFj(X:XEnv)(T:List Nat)(na:Nat)(live:List Nat)(r:List (Nat×AV))(B:qal):qau X T (yT na live qsX) ⟨r,B⟩=qcU live (qb9 (qac X) X.lin T true B.length [z5 105 0,zw 106 105 [0],zf 107 0 106 [1],zD 108 1 107 [2],z6 109 0 8,zD 110 1 109 [4],zM 111 33 108 110 [3,5]] ⟨r,B++List.replicate na none⟩):=qaN X T na live qsX (by kernel_rfl) r B
theorem qPj(X:XEnv)(T:List Nat)(na:Nat)(live:List Nat)(r:List (Nat×AV))(B:qal):qau X T (yT na live qsU) ⟨r,B⟩=qcU live (qb9 (qac X) X.lin T true B.length [z5 140 10,z6 141 2 8,zD 142 1 141 [1],z5 143 11,zC 144 3 142 143 [2,3],zI 145 3 144 [4],zg 146 3 0 0 1 0 145 [5],z6 147 2 9,zD 148 1 147 [7],z5 149 11,zC 150 3 148 149 [8,9],zI 151 3 150 [10],zg 152 3 0 0 1 0 151 [11],z0G 153 0 0 1 1 1 146 2 1 152 [6,12],z0S 154 3 0 1 0 153 [13],z0A 155 3 56 140 154 [0,14],zQ 10 155 [0,1,2,3,4,5,6,7,8,9,10,11,12,13,14,15]] ⟨r,B++List.replicate na none⟩):=qaN X T na live qsU (by kernel_rfl) r B
theorem qPi(X:XEnv)(T:List Nat)(na:Nat)(live:List Nat)(r:List (Nat×AV))(B:qal):qau X T (yT na live qsS) ⟨r,B⟩=qcU live (qb9 (qac X) X.lin T true B.length [z5 65 0,z6 66 0 5,zD 67 1 66 [1],z5 68 9,z5 69 12,z0W 70 0 0 1 67 1 1 68 2 1 69 [2,3,4],z0S 71 3 0 1 0 70 [5],z5 72 2,z0A 73 3 56 71 72 [6,7],z5 74 3,z6 75 1 8,zD 76 1 75 [10],z5 77 0,zw 78 77 [12],zf 79 0 78 [13],zD 80 1 79 [14],z6 81 0 5,zD 82 1 81 [16],z5 83 11,zx 84 193 80 82 83 [8,15,17,18],zx 85 313 74 76 84 [9,11,19],z11 86 310 65 73 85 [0,8,20]] ⟨r,B++List.replicate na none⟩):=qaN X T na live qsS (by kernel_rfl) r B
theorem qPh(X:XEnv)(T:List Nat)(na:Nat)(live:List Nat)(r:List (Nat×AV))(B:qal):qau X T (yT na live qsP) ⟨r,B⟩=qcU live (qb9 (qac X) X.lin T true B.length [zB 129 3 8,zg 130 3 0 0 1 0 129 [0],z6 131 2 5,zD 132 1 131 [2],z5 133 17,zC 134 3 132 133 [3,4],zI 135 3 134 [5],zg 136 3 0 0 1 0 135 [6],z0G 137 0 0 1 1 1 130 2 1 136 [1,7],z0V 18 0 0,z0J 3 18 137 [0,1,2,3,4,5,6,7,8,9]] ⟨r,B++List.replicate na none⟩):=qaN X T na live qsP (by kernel_rfl) r B
theorem qPg(X:XEnv)(T:List Nat)(na:Nat)(live:List Nat)(r:List (Nat×AV))(B:qal):qau X T (yT na live qsO) ⟨r,B⟩=qcU live (qb9 (qac X) X.lin T true B.length [z6 138 0 5,zD 139 1 138 [0],z5 140 9,z6 141 2 5,zD 142 1 141 [3],z5 143 17,zM 144 260 142 143 [4,5],z0W 145 0 0 1 139 1 1 140 2 1 144 [1,2,6],z0V 19 0 0,z0J 3 19 145 [0,1,2,3,4,5,6,7,8]] ⟨r,B++List.replicate na none⟩):=qaN X T na live qsO (by kernel_rfl) r B
theorem qrr(X:XEnv)(T:List Nat)(na:Nat)(live:List Nat)(r:List (Nat×AV))(B:qal):qau X T (yT na live qCd) ⟨r,B⟩=qcU live (qb9 (qac X) X.lin T true B.length [z5 17 0,zw 18 17 [0],zf 19 3 18 [1],zD 20 1 19 [2],z5 21 0,zw 22 21 [4],zf 23 4 22 [5],zD 24 1 23 [6],z1X 25 20 24 [3,7]] ⟨r,B++List.replicate na none⟩):=qaN X T na live qCd (by kernel_rfl) r B
theorem qUY(X:XEnv)(T:List Nat)(na:Nat)(live:List Nat)(r:List (Nat×AV))(B:qal):qau X T (yT na live qCc) ⟨r,B⟩=qcU live (qb9 (qac X) X.lin T true B.length [z5 39 0,z5 40 0,zw 41 40 [1],zf 42 1 41 [2],zD 43 1 42 [3],z7 44 1 5,zU 45 266 44 [5],z17 46 1 1 0 45 [6],z0A 47 1 24 43 46 [4,6,7],zw 48 39 [0,1,2,3,4,5,6,7,8],zf 49 1 48 [0,1,2,3,4,5,6,7,8,9],zm 1 49 47 [0,1,2,3,4,5,6,7,8,10]] ⟨r,B++List.replicate na none⟩):=qaN X T na live qCc (by kernel_rfl) r B
theorem qL0(X:XEnv)(T:List Nat)(na:Nat)(live:List Nat)(r:List (Nat×AV))(B:qal):qau X T (yT na live qCb) ⟨r,B⟩=qcU live (qb9 (qac X) X.lin T true B.length [z5 50 1,z02 51 4 50 0 [0],zI 52 4 51 [1],z5 53 1,z0e 54 4 53 1 [3],z1R 6 0 0,z0J 4 6 52 [0,1,2,5],zQ 7 54 [0,1,2,3,4,5,6]] ⟨r,B++List.replicate na none⟩):=qaN X T na live qCb (by kernel_rfl) r B
theorem qPf(X:XEnv)(T:List Nat)(na:Nat)(live:List Nat)(r:List (Nat×AV))(B:qal):qau X T (yT na live qsM) ⟨r,B⟩=qcU live (qb9 (qac X) X.lin T true B.length [z5 62 0,z6 63 2 6,zD 64 1 63 [1],z02 65 3 64 0 [2],zI 66 3 65 [3],z6 67 3 6,zD 68 1 67 [5],z02 69 3 68 0 [6],zI 70 3 69 [7],z5 71 7,z7 72 1 5,⟨some 73,.call false (.c (.fn 322 [])) [.t 62,.t 66,.t 70,.t 71,.t 72],none,[0,4,8,9,10]⟩] ⟨r,B++List.replicate na none⟩):=qaN X T na live qsM (by kernel_rfl) r B
theorem qLZ(X:XEnv)(T:List Nat)(na:Nat)(live:List Nat)(r:List (Nat×AV))(B:qal):qau X T (yT na live qB9) ⟨r,B⟩=qcU live (qb9 (qac X) X.lin T true B.length [z5 3 0,zw 4 3 [0],zf 5 5 4 [1],zD 6 1 5 [2],zQ 7 6 [3],zO 8 0 7 [4],z1S 9 8 7 [4,5],zR 10 1 9 7 [4,6],zY 11 1 10 7 [4,7],⟨some 12,.len false (.t 11),some (7,false),[4,8]⟩,zO 13 0 7 [4],z1S 14 13 7 [4,10],zR 15 2 14 7 [4,11],zY 16 1 15 7 [4,12],⟨some 17,.bin .gtr (.t 12) (.t 16),some (7,false),[4,9,13]⟩,ze 18 7 17 [4,14],zQ 2 18 [0,1,2,3,4,5,6,7,8,9,10,11,12,13,14,15]] ⟨r,B++List.replicate na none⟩):=qaN X T na live qB9 (by kernel_rfl) r B
theorem qPe(X:XEnv)(T:List Nat)(na:Nat)(live:List Nat)(r:List (Nat×AV))(B:qal):qau X T (yT na live qsL) ⟨r,B⟩=qcU live (qb9 (qac X) X.lin T true B.length [z5 50 9,z6 51 3 5,zD 52 1 51 [1],z5 53 10,zM 54 284 52 53 [2,3],zB 55 3 8,zg 56 3 0 0 1 0 55 [5],zB 57 3 11,zg 58 3 0 0 1 0 57 [7],z0O 59 0 2 1 56 3 1 58 [6,8],z06 60 4 0 1 0 59 [9],z5 61 3,⟨some 62,.call false (.t 50) [.t 54,.t 60,.t 61],none,[0,4,10,11]⟩] ⟨r,B++List.replicate na none⟩):=qaN X T na live qsL (by kernel_rfl) r B
theorem qPd(X:XEnv)(T:List Nat)(na:Nat)(live:List Nat)(r:List (Nat×AV))(B:qal):qau X T (yT na live qsJ) ⟨r,B⟩=qcU live (qb9 (qac X) X.lin T true B.length [z5 130 9,z5 131 19,z5 132 3,z6 133 1 8,zD 134 1 133 [3],z7 135 1 4,zw 136 135 [5],zf 137 0 136 [6],zD 138 1 137 [7],z6 139 1 5,zD 140 1 139 [9],z5 141 18,zx 142 192 138 140 141 [8,10,11],zx 143 323 132 134 142 [2,4,12],⟨some 144,.call false (.t 130) [.t 131,.c (.d (.sl .nil [])),.t 143],none,[0,1,13]⟩] ⟨r,B++List.replicate na none⟩):=qaN X T na live qsJ (by kernel_rfl) r B
theorem qFi(X:XEnv)(T:List Nat)(na:Nat)(live:List Nat)(r:List (Nat×AV))(B:qal):qau X T (yT na live qB6) ⟨r,B⟩=qcU live (qb9 (qac X) X.lin T true B.length [z5 47 0,zw 48 47 [0],zf 49 0 48 [1],zD 50 1 49 [2],z6 51 0 6,zD 52 1 51 [4],zM 53 34 50 52 [3,5]] ⟨r,B++List.replicate na none⟩):=qaN X T na live qB6 (by kernel_rfl) r B
theorem qPc(X:XEnv)(T:List Nat)(na:Nat)(live:List Nat)(r:List (Nat×AV))(B:qal):qau X T (yT na live qsG) ⟨r,B⟩=qcU live (qb9 (qac X) X.lin T true B.length [z5 81 12,z6 82 2 6,zD 83 1 82 [1],z5 84 13,z5 85 13,z0F 86 85 1 [4],z0v 87 3 83 84 86 [2,3,5],z6 88 2 7,zD 89 1 88 [7],z5 90 13,z5 91 13,z0F 92 91 1 [10],z0v 93 3 89 90 92 [8,9,11],z0O 94 0 2 1 87 3 1 93 [6,12],z06 95 4 0 1 0 94 [13],z0A 96 4 64 81 95 [0,14],zQ 12 96 [0,1,2,3,4,5,6,7,8,9,10,11,12,13,14,15]] ⟨r,B++List.replicate na none⟩):=qaN X T na live qsG (by kernel_rfl) r B
theorem qUX(X:XEnv)(T:List Nat)(na:Nat)(live:List Nat)(r:List (Nat×AV))(B:qal):qau X T (yT na live qB5) ⟨r,B⟩=qcU live (qb9 (qac X) X.lin T true B.length [z7 9 1 3,z5 10 1,z6 11 1 4,zD 12 1 11 [2],z6 13 2 4,zD 14 1 13 [4],z0e 15 3 14 1 [5],z5 16 0,⟨some 17,.build [.bool false,.int .i64 0,.sl .nil [],.sl .nil []] [(0,1,.c (.d (.bool true))),(1,1,.t 12),(2,1,.t 15),(3,1,.t 16)],none,[3,6,7]⟩,z06 18 4 0 1 0 17 [8],z7 19 1 5,⟨some 20,.buildSlice 1 (.sl .nil []) 3 [(0,.t 10),(1,.t 18),(2,.t 19)],none,[1,9,10]⟩,zU 21 328 20 [11],z5 22 2,z11 23 318 9 21 22 [0,12,13]] ⟨r,B++List.replicate na none⟩):=qaN X T na live qB5 (by kernel_rfl) r B
theorem qD4:∀{l:List (Nat×VFn)} {k:Nat} {v:VFn},look l k=some v->(k,v)∈l
 | [],_,_,h=>by simp[look]at h
 |(a,u)::r,k,v,h=>by
  simp only[look]at h;split at h
  ·rename_i hk
   simp at h;subst h;subst hk;simp
  ·exact List.mem_cons_of_mem _ (qD4 h)
theorem qOd:qPr.all (fun q=>q.2.linOK (qqM qOb q.1))=true:=by kernel_rfl
theorem qHx:qM5.all (fun q=>q.2.pre.linOK (qqM qOb q.1)&&q.2.rest.linOK (qqM qOb q.1)&&qat (qqM qOb q.1) (q.2.results.flatMap VRes.vx)&&(qqM qOb q.1).all (fun j=>decide (q.2.np<=j)))=true:=by kernel_rfl
theorem qwY:∀q,q∈qIu->qr1 q.2 (qme q.2)/\qqM qOb q.1=[]:=yc_.2 ⟨⟨qPD,by kernel_rfl⟩,yc_.2 ⟨⟨qsj,by kernel_rfl⟩,yc_.2 ⟨⟨qNW,by kernel_rfl⟩,List.forall_mem_nil _⟩⟩⟩
theorem xok:XOK XV:=⟨fun f vf h=>List.all_eq_true.1 qOd (f,vf) (qD4 h),fun f g h=>⟨qme g,by show(qlu qIu f).map qme=_;rw[show qlu qIu f=some g from h];rfl,(qwY (f,g) (qhI h)).1,(qwY (f,g) (qhI h)).2⟩,fun f h=>by show(qlu qIu f).map qme=_;rw[show qlu qIu f=none from h];rfl,fun f sf h=>by
 have:=List.all_eq_true.1 qHx (f,sf) (qlt h);simp only[Bool.and_eq_true]at this;exact⟨this.1.1.1,this.1.1.2,this.1.2,this.2⟩⟩
end Go.Proofs.YtbcbkiaineacpaaGreat.VS
