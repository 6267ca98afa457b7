/- Which registers of each function may own rows; the functions for the evaluator without names. -/
import Derived.Test.YtbcbkiaineacpaaGreatNat2
import Derived.Test.YtbcbkiaineacpaaGreatCode
import Derived.KernelRfl
set_option linter.unusedVariables false
namespace Go.Proofs.YtbcbkiaineacpaaGreat.VS
def qNt:List (Nat×List Nat):=[(2,[12,14]),(8,[2,3,20,22]),(12,[2,3,22]),(25,[15]),(78,[70]),(145,[24,26]),(146,[9,18,24,25,26,28]),(147,[4]),(148,[13,19,21]),(150,[5,7]),(151,[2,3,6,12,13,15,16,17,19]),(153,[13,27,36,41,42,51,52,53,54,63,64,65,67]),(154,[0,1,4,6,22,25,26,27,28,29,30,31,34,35]),(164,[6,7]),(169,[5,8,15,18,30,32,33,34,35,36,37,45,47]),(172,[46,50]),(173,[70,74,122,126]),(175,[29,35]),(192,[14,15,27,43,46,48]),(193,[15,28,38,43]),(197,[2,3,5,12,17,18,19,20]),(250,[2,3,5,12,23,24,25,26,27]),(260,[4,5,6,10,11,16]),(266,[2,3,6,12,13,18,19,20,21,23]),(282,[4,14,22,24]),(289,[21,25]),(306,[6,8,10,25,26,27,30,31,32,33,34,50,54]),(307,[6,23,24,27,28,29,30,31,39]),(310,[7,10,46,48,49,50,55,69,73,116,118,119,120,121,125,140,145,146,151,152,153,154,155,157,158]),(311,[9,12,15,35,58,62,64,68,69,70,71,72,93,94,103,107,108,114,115,116,117,118,129,130,135,136,137,140,144,145,147,148,149,150]),(313,[6,7,10,28,31,32,33,34,35,39,40,41,44,47,48,49,50,51]),(315,[4,5,6,7,9,10,22,26,27,28,29,33,34,35,36,37]),(316,[4,6,9,24,27,28]),(318,[43,45,46,47,52]),(321,[18,19,37,49,55,56,57,58,59,64,68,69,72,106,107,115,121,122,123,124,125,126,127,128]),(322,[12,16,20,21,58,60,61,62,63,74,81,94,95,96,99,100]),(327,[10,16,17,18,19]),(336,[6,8,10,14,15,24,25,26]),(369,[48,50]),(370,[6,20,23])]
def qqw:List (Nat×List Nat)->Nat->List Nat
 | [],_=>[]
 |(k,v)::r,n=>if n=k then v else qqw r n
noncomputable def XV:XEnv:=⟨E,qqw qNt,qlk qHS⟩
@[simp] theorem qYZ:XV.lin 1=[]:=by kernel_rfl
theorem qLS:XV.env.code 1=some v1:=by kernel_rfl
@[simp] theorem qYY:XV.lin 2=[12,14]:=by kernel_rfl
theorem qLR:XV.env.code 2=some v2:=by kernel_rfl
@[simp] theorem qYX:XV.lin 3=[]:=by kernel_rfl
theorem qLQ:XV.env.code 3=some v3:=by kernel_rfl
@[simp] theorem qYW:XV.lin 4=[]:=by kernel_rfl
theorem qLP:XV.env.code 4=some v4:=by kernel_rfl
@[simp] theorem qYV:XV.lin 5=[]:=by kernel_rfl
theorem qLO:XV.env.code 5=some v5:=by kernel_rfl
@[simp] theorem qYU:XV.lin 6=[]:=by kernel_rfl
theorem qzU:XV.env.code 6=some v6:=by kernel_rfl
@[simp] theorem qYT:XV.lin 7=[]:=by kernel_rfl
theorem qLN:XV.env.code 7=some v7:=by kernel_rfl
@[simp] theorem qWn:XV.lin 8=[2,3,20,22]:=by kernel_rfl
theorem qLM:XV.env.code 8=some v8:=by kernel_rfl
@[simp] theorem qYS:XV.lin 9=[]:=by kernel_rfl
theorem qLL:XV.env.code 9=some v9:=by kernel_rfl
@[simp] theorem qYo:XV.lin 11=[]:=by kernel_rfl
theorem qGp:XV.env.code 11=some v11:=by kernel_rfl
@[simp] theorem qTw:XV.lin 12=[2,3,22]:=by kernel_rfl
theorem qGo:XV.env.code 12=some v12:=by kernel_rfl
@[simp] theorem qYn:XV.lin 13=[]:=by kernel_rfl
theorem qGn:XV.env.code 13=some v13:=by kernel_rfl
@[simp] theorem qYm:XV.lin 14=[]:=by kernel_rfl
theorem qGm:XV.env.code 14=some v14:=by kernel_rfl
@[simp] theorem qYl:XV.lin 15=[]:=by kernel_rfl
theorem qGl:XV.env.code 15=some v15:=by kernel_rfl
@[simp] theorem qYk:XV.lin 16=[]:=by kernel_rfl
theorem qGk:XV.env.code 16=some v16:=by kernel_rfl
@[simp] theorem qYj:XV.lin 17=[]:=by kernel_rfl
theorem qGj:XV.env.code 17=some v17:=by kernel_rfl
@[simp] theorem qYi:XV.lin 18=[]:=by kernel_rfl
theorem qGi:XV.env.code 18=some v18:=by kernel_rfl
@[simp] theorem qTv:XV.lin 19=[]:=by kernel_rfl
theorem qGh:XV.env.code 19=some v19:=by kernel_rfl
@[simp] theorem qYh:XV.lin 20=[]:=by kernel_rfl
theorem qGg:XV.env.code 20=some v20:=by kernel_rfl
@[simp] theorem qYg:XV.lin 22=[]:=by kernel_rfl
theorem qGf:XV.env.code 22=some v22:=by kernel_rfl
@[simp] theorem qYf:XV.lin 23=[]:=by kernel_rfl
theorem qGe:XV.env.code 23=some v23:=by kernel_rfl
@[simp] theorem qYe:XV.lin 24=[]:=by kernel_rfl
theorem qGd:XV.env.code 24=some v24:=by kernel_rfl
@[simp] theorem qTu:XV.lin 25=[15]:=by kernel_rfl
theorem qGc:XV.env.code 25=some v25:=by kernel_rfl
@[simp] theorem qYd:XV.lin 29=[]:=by kernel_rfl
theorem qGb:XV.env.code 29=some v29:=by kernel_rfl
@[simp] theorem qYc:XV.lin 30=[]:=by kernel_rfl
theorem qGa:XV.env.code 30=some v30:=by kernel_rfl
@[simp] theorem qYb:XV.lin 31=[]:=by kernel_rfl
theorem qF9:XV.env.code 31=some v31:=by kernel_rfl
@[simp] theorem qYa:XV.lin 33=[]:=by kernel_rfl
theorem qF8:XV.env.code 33=some v33:=by kernel_rfl
@[simp] theorem qX9:XV.lin 34=[]:=by kernel_rfl
theorem qF7:XV.env.code 34=some v34:=by kernel_rfl
@[simp] theorem qX8:XV.lin 59=[]:=by kernel_rfl
theorem qF6:XV.env.code 59=some v59:=by kernel_rfl
@[simp] theorem qX7:XV.lin 60=[]:=by kernel_rfl
theorem qF5:XV.env.code 60=some v60:=by kernel_rfl
@[simp] theorem qX6:XV.lin 61=[]:=by kernel_rfl
theorem qF4:XV.env.code 61=some v61:=by kernel_rfl
@[simp] theorem qX5:XV.lin 62=[]:=by kernel_rfl
theorem qF3:XV.env.code 62=some v62:=by kernel_rfl
@[simp] theorem qX4:XV.lin 69=[]:=by kernel_rfl
theorem qF2:XV.env.code 69=some v69:=by kernel_rfl
@[simp] theorem qX3:XV.lin 70=[]:=by kernel_rfl
theorem qF1:XV.env.code 70=some v70:=by kernel_rfl
@[simp] theorem qX2:XV.lin 75=[]:=by kernel_rfl
theorem qF0:XV.env.code 75=some v75:=by kernel_rfl
@[simp] theorem qTt:XV.lin 77=[]:=by kernel_rfl
theorem qFZ:XV.env.code 77=some v77:=by kernel_rfl
@[simp] theorem qDy:XV.lin 78=[70]:=by kernel_rfl
theorem qFY:XV.env.code 78=some v78:=by kernel_rfl
@[simp] theorem qX1:XV.lin 79=[]:=by kernel_rfl
theorem qFX:XV.env.code 79=some v79:=by kernel_rfl
@[simp] theorem qX0:XV.lin 80=[]:=by kernel_rfl
theorem qFW:XV.env.code 80=some v80:=by kernel_rfl
@[simp] theorem qTs:XV.lin 82=[]:=by kernel_rfl
theorem qFV:XV.env.code 82=some v82:=by kernel_rfl
@[simp] theorem qDx:XV.lin 83=[]:=by kernel_rfl
theorem qFU:XV.env.code 83=some v83:=by kernel_rfl
@[simp] theorem qXZ:XV.lin 84=[]:=by kernel_rfl
theorem qFT:XV.env.code 84=some v84:=by kernel_rfl
@[simp] theorem qXY:XV.lin 86=[]:=by kernel_rfl
theorem qFS:XV.env.code 86=some v86:=by kernel_rfl
@[simp] theorem qNS:XV.lin 145=[24,26]:=by kernel_rfl
theorem qAJ:XV.env.code 145=some qQu:=by kernel_rfl
@[simp] theorem qNR:XV.lin 146=[9,18,24,25,26,28]:=by kernel_rfl
theorem qAI:XV.env.code 146=some qQt:=by kernel_rfl
@[simp] theorem qWT:XV.lin 147=[4]:=by kernel_rfl
theorem qAH:XV.env.code 147=some qQs:=by kernel_rfl
@[simp] theorem qNQ:XV.lin 148=[13,19,21]:=by kernel_rfl
theorem qAG:XV.env.code 148=some qQr:=by kernel_rfl
@[simp] theorem qWS:XV.lin 150=[5,7]:=by kernel_rfl
theorem qAF:XV.env.code 150=some qQq:=by kernel_rfl
@[simp] theorem qNP:XV.lin 151=[2,3,6,12,13,15,16,17,19]:=by kernel_rfl
theorem qAE:XV.env.code 151=some qQp:=by kernel_rfl
@[simp] theorem qDD:XV.lin 153=[13,27,36,41,42,51,52,53,54,63,64,65,67]:=by kernel_rfl
theorem qAD:XV.env.code 153=some qQo:=by kernel_rfl
@[simp] theorem qNO:XV.lin 154=[0,1,4,6,22,25,26,27,28,29,30,31,34,35]:=by kernel_rfl
theorem qAC:XV.env.code 154=some qQn:=by kernel_rfl
@[simp] theorem qWR:XV.lin 164=[6,7]:=by kernel_rfl
theorem qAB:XV.env.code 164=some qQm:=by kernel_rfl
@[simp] theorem qWQ:XV.lin 170=[]:=by kernel_rfl
theorem qpf:XV.env.code 170=some qL9:=by kernel_rfl
@[simp] theorem qWP:XV.lin 171=[]:=by kernel_rfl
theorem qpe:XV.env.code 171=some qL8:=by kernel_rfl
@[simp] theorem qWO:XV.lin 172=[46,50]:=by kernel_rfl
theorem qjQ:XV.env.code 172=some qGB:=by kernel_rfl
@[simp] theorem qWN:XV.lin 173=[70,74,122,126]:=by kernel_rfl
theorem qjP:XV.env.code 173=some qGA:=by kernel_rfl
@[simp] theorem qWM:XV.lin 174=[]:=by kernel_rfl
theorem qAA:XV.env.code 174=some qQl:=by kernel_rfl
@[simp] theorem qWL:XV.lin 175=[29,35]:=by kernel_rfl
theorem qAz:XV.env.code 175=some qQk:=by kernel_rfl
@[simp] theorem qWK:XV.lin 192=[14,15,27,43,46,48]:=by kernel_rfl
theorem qAy:XV.env.code 192=some qGz:=by kernel_rfl
@[simp] theorem qWJ:XV.lin 193=[15,28,38,43]:=by kernel_rfl
theorem qAx:XV.env.code 193=some qGy:=by kernel_rfl
@[simp] theorem qNM:XV.lin 197=[2,3,5,12,17,18,19,20]:=by kernel_rfl
theorem qAw:XV.env.code 197=some qQj:=by kernel_rfl
@[simp] theorem qWI:XV.lin 243=[]:=by kernel_rfl
theorem qAv:XV.env.code 243=some qPf:=by kernel_rfl
@[simp] theorem qDC:XV.lin 244=[]:=by kernel_rfl
theorem qAu:XV.env.code 244=some qPe:=by kernel_rfl
@[simp] theorem qNL:XV.lin 249=[]:=by kernel_rfl
theorem qAt:XV.env.code 249=some qQi:=by kernel_rfl
@[simp] theorem qNK:XV.lin 250=[2,3,5,12,23,24,25,26,27]:=by kernel_rfl
theorem qAs:XV.env.code 250=some qQh:=by kernel_rfl
@[simp] theorem qNJ:XV.lin 259=[]:=by kernel_rfl
theorem qAr:XV.env.code 259=some qQg:=by kernel_rfl
@[simp] theorem qWH:XV.lin 260=[4,5,6,10,11,16]:=by kernel_rfl
theorem qAq:XV.env.code 260=some qQf:=by kernel_rfl
@[simp] theorem qNI:XV.lin 261=[]:=by kernel_rfl
theorem qAp:XV.env.code 261=some qPd:=by kernel_rfl
@[simp] theorem qWG:XV.lin 265=[]:=by kernel_rfl
theorem qAo:XV.env.code 265=some qQe:=by kernel_rfl
@[simp] theorem qNH:XV.lin 266=[2,3,6,12,13,18,19,20,21,23]:=by kernel_rfl
theorem qAn:XV.env.code 266=some qQd:=by kernel_rfl
@[simp] theorem qNG:XV.lin 269=[]:=by kernel_rfl
theorem qAm:XV.env.code 269=some qQc:=by kernel_rfl
@[simp] theorem qNF:XV.lin 281=[]:=by kernel_rfl
theorem qAl:XV.env.code 281=some qQb:=by kernel_rfl
@[simp] theorem qNE:XV.lin 282=[4,14,22,24]:=by kernel_rfl
theorem qAk:XV.env.code 282=some qQa:=by kernel_rfl
@[simp] theorem qWF:XV.lin 283=[]:=by kernel_rfl
theorem qAj:XV.env.code 283=some qP9:=by kernel_rfl
@[simp] theorem qWE:XV.lin 288=[]:=by kernel_rfl
theorem qAi:XV.env.code 288=some qP8:=by kernel_rfl
@[simp] theorem qND:XV.lin 289=[21,25]:=by kernel_rfl
theorem qAh:XV.env.code 289=some qPc:=by kernel_rfl
@[simp] theorem qWD:XV.lin 290=[]:=by kernel_rfl
theorem qAg:XV.env.code 290=some qPb:=by kernel_rfl
@[simp] theorem qDB:XV.lin 291=[]:=by kernel_rfl
theorem qAf:XV.env.code 291=some qPa:=by kernel_rfl
@[simp] theorem qDA:XV.lin 292=[]:=by kernel_rfl
theorem qAe:XV.env.code 292=some qO9:=by kernel_rfl
@[simp] theorem qWC:XV.lin 293=[]:=by kernel_rfl
theorem qAd:XV.env.code 293=some qO8:=by kernel_rfl
@[simp] theorem qWB:XV.lin 294=[]:=by kernel_rfl
theorem qAc:XV.env.code 294=some qP7:=by kernel_rfl
@[simp] theorem qWA:XV.lin 306=[6,8,10,25,26,27,30,31,32,33,34,50,54]:=by kernel_rfl
theorem qAb:XV.env.code 306=some qFE:=by kernel_rfl
@[simp] theorem qWz:XV.lin 307=[6,23,24,27,28,29,30,31,39]:=by kernel_rfl
theorem qAa:XV.env.code 307=some qGx:=by kernel_rfl
@[simp] theorem qWy:XV.lin 308=[]:=by kernel_rfl
theorem qz9:XV.env.code 308=some qP6:=by kernel_rfl
@[simp] theorem qNC:XV.lin 309=[]:=by kernel_rfl
theorem qz8:XV.env.code 309=some qP5:=by kernel_rfl
@[simp] theorem qNB:XV.lin 310=[7,10,46,48,49,50,55,69,73,116,118,119,120,121,125,140,145,146,151,152,153,154,155,157,158]:=by kernel_rfl
theorem qcH:XV.env.code 310=some qjS:=by kernel_rfl
@[simp] theorem qDz:XV.lin 311=[9,12,15,35,58,62,64,68,69,70,71,72,93,94,103,107,108,114,115,116,117,118,129,130,135,136,137,140,144,145,147,148,149,150]:=by kernel_rfl
theorem qgX:XV.env.code 311=some qr5:=by kernel_rfl
@[simp] theorem qNA:XV.lin 312=[]:=by kernel_rfl
theorem qz7:XV.env.code 312=some qP4:=by kernel_rfl
@[simp] theorem qNz:XV.lin 313=[6,7,10,28,31,32,33,34,35,39,40,41,44,47,48,49,50,51]:=by kernel_rfl
theorem qz6:XV.env.code 313=some qP3:=by kernel_rfl
@[simp] theorem qWx:XV.lin 314=[]:=by kernel_rfl
theorem qz5:XV.env.code 314=some qO7:=by kernel_rfl
@[simp] theorem qNy:XV.lin 315=[4,5,6,7,9,10,22,26,27,28,29,33,34,35,36,37]:=by kernel_rfl
theorem qz4:XV.env.code 315=some qP2:=by kernel_rfl
@[simp] theorem qNx:XV.lin 316=[4,6,9,24,27,28]:=by kernel_rfl
theorem qz3:XV.env.code 316=some qP1:=by kernel_rfl
@[simp] theorem qWw:XV.lin 317=[]:=by kernel_rfl
theorem qz2:XV.env.code 317=some qP0:=by kernel_rfl
@[simp] theorem qWv:XV.lin 318=[43,45,46,47,52]:=by kernel_rfl
theorem qfK:XV.env.code 318=some quh:=by kernel_rfl
@[simp] theorem qWu:XV.lin 319=[]:=by kernel_rfl
theorem qz1:XV.env.code 319=some qO6:=by kernel_rfl
@[simp] theorem qWt:XV.lin 320=[]:=by kernel_rfl
theorem qz0:XV.env.code 320=some qPZ:=by kernel_rfl
@[simp] theorem qtk:XV.lin 321=[18,19,37,49,55,56,57,58,59,64,68,69,72,106,107,115,121,122,123,124,125,126,127,128]:=by kernel_rfl
theorem qgW:XV.env.code 321=some qr4:=by kernel_rfl
@[simp] theorem qNw:XV.lin 322=[12,16,20,21,58,60,61,62,63,74,81,94,95,96,99,100]:=by kernel_rfl
theorem qet:XV.env.code 322=some qrP:=by kernel_rfl
@[simp] theorem qWs:XV.lin 327=[10,16,17,18,19]:=by kernel_rfl
theorem qzZ:XV.env.code 327=some qPY:=by kernel_rfl
@[simp] theorem qWr:XV.lin 330=[]:=by kernel_rfl
theorem qzY:XV.env.code 330=some qL7:=by kernel_rfl
@[simp] theorem qWq:XV.lin 336=[6,8,10,14,15,24,25,26]:=by kernel_rfl
theorem qzX:XV.env.code 336=some qL6:=by kernel_rfl
@[simp] theorem qWp:XV.lin 369=[48,50]:=by kernel_rfl
theorem qzW:XV.env.code 369=some qI1:=by kernel_rfl
@[simp] theorem qWo:XV.lin 370=[6,20,23]:=by kernel_rfl
theorem qzV:XV.env.code 370=some qL5:=by kernel_rfl
@[simp] theorem qNN:XV.lin 169=[5,8,15,18,30,32,33,34,35,36,37,45,47]:=by kernel_rfl
theorem qzN:XV.env.code 169=none:=by kernel_rfl
theorem qzJ:XV.env.spec 169=some qpA:=by kernel_rfl
theorem qYu(X:XEnv)(T:List Nat)(na:Nat)(live:List Nat)(r:List (Nat×AV))(B:qam):qau X T (yT na live qVF) ⟨r,B⟩=qcQ live (qb9 (qac X) X.lin T true B.length [z6 34 2 2,zD 35 1 34 [0],z5 36 5,zC 37 3 35 36 [1,2],zI 38 3 37 [3],z6 39 2 3,zD 40 1 39 [5],z5 41 5,zC 42 3 40 41 [6,7],zI 43 3 42 [8],zN 44 3 38 43 [4,9],z03 45 44 [10]] ⟨r,B++List.replicate na none⟩):=qaN X T na live qVF (by kernel_rfl) r B
theorem qIr(X:XEnv)(T:List Nat)(na:Nat)(live:List Nat)(r:List (Nat×AV))(B:qam):qau X T (yT na live qMC) ⟨r,B⟩=qcQ live (qb9 (qac X) X.lin T true B.length [z6 51 2 2,zD 52 1 51 [0],z5 53 7,zC 54 3 52 53 [1,2],zI 55 3 54 [3],z6 56 2 3,zD 57 1 56 [5],z5 58 7,zC 59 3 57 58 [6,7],zI 60 3 59 [8],zN 61 6 55 60 [4,9],zQ 8 61 [0,1,2,3,4,5,6,7,8,9,10]] ⟨r,B++List.replicate na none⟩):=qaN X T na live qMC (by kernel_rfl) r B
theorem qY1(X:XEnv)(T:List Nat)(na:Nat)(live:List Nat)(r:List (Nat×AV))(B:qam):qau X T (yT na live qVx) ⟨r,B⟩=qcQ live (qb9 (qac X) X.lin T true B.length [z5 17 0,z5 18 5,zC 19 3 17 18 [0,1],zI 20 3 19 [2],z5 21 1,z5 22 5,zC 23 3 21 22 [4,5],zI 24 3 23 [6],zN 25 5 20 24 [3,7],z03 26 25 [8]] ⟨r,B++List.replicate na none⟩):=qaN X T na live qVx (by kernel_rfl) r B
theorem qXd(X:XEnv)(T:List Nat)(na:Nat)(live:List Nat)(r:List (Nat×AV))(B:qam):qau X T (yT na live qM2) ⟨r,B⟩=qcQ live (qb9 (qac X) X.lin T true B.length [z5 17 0,z5 18 5,zC 19 3 17 18 [0,1],zI 20 3 19 [2],z5 21 1,z5 22 5,zC 23 3 21 22 [4,5],zI 24 3 23 [6],zN 25 20 20 24 [3,7],z03 26 25 [8]] ⟨r,B++List.replicate na none⟩):=qaN X T na live qM2 (by kernel_rfl) r B
theorem qXc(X:XEnv)(T:List Nat)(na:Nat)(live:List Nat)(r:List (Nat×AV))(B:qam):qau X T (yT na live qME) ⟨r,B⟩=qcQ live (qb9 (qac X) X.lin T true B.length [z5 17 0,z5 18 5,zC 19 4 17 18 [0,1],zI 20 4 19 [2],z5 21 1,z5 22 5,zC 23 4 21 22 [4,5],zI 24 4 23 [6],zN 25 86 20 24 [3,7],z03 26 25 [8]] ⟨r,B++List.replicate na none⟩):=qaN X T na live qME (by kernel_rfl) r B
theorem qEF(X:XEnv)(T:List Nat)(na:Nat)(live:List Nat)(r:List (Nat×AV))(B:qam):qau X T (yT na live qHs) ⟨r,B⟩=qcQ live (qb9 (qac X) X.lin T true B.length [z5 18 0,z6 19 0 3,zD 20 1 19 [1],zN 21 29 18 20 [0,2],z03 22 21 [3],zQ 23 22 [3,4],zR 24 1 3 23 [5],za 25 1 24 23 [5,6],z0p 26 25 0 23 [5,7],zc 27 23 26 [5,8],zQ 28 27 [5,9],zO 29 0 28 [10],zR 30 0 3 28 [10],za 31 1 30 28 [10,12],zq 32 3 29 31 28 [10,11,13],zR 33 2 32 28 [10,14],za 34 1 33 28 [10,15],z0k 35 34 28 [10,16],zO 36 35 28 [10,17],zZ 37 2 3 36 [18],zV 38 1 37 36 [18,19],z0a 39 38 36 [18,20],zl 40 0 36 [18],zZ 41 0 3 36 [18],zV 42 1 41 36 [18,23],zo 43 3 40 42 36 [18,22,24],zZ 44 1 43 36 [18,25],zV 45 1 44 36 [18,26],z1G 46 39 45 36 [18,21,27],zm 47 36 46 28 [10,18,28],zc 48 28 47 [10,29],zQ 49 48 [18,30],zO 50 0 49 [31],zR 51 0 3 49 [31],za 52 1 51 49 [31,33],zq 53 3 50 52 49 [31,32,34],zR 54 2 53 49 [31,35],za 55 1 54 49 [31,36],zO 56 55 49 [31,37],zZ 57 2 3 56 [38],zV 58 1 57 56 [38,39],z0a 59 58 56 [38,40],z0L 60 59 2 56 [38,41],zm 61 56 60 49 [31,38,42],zc 62 49 61 [31,43]] ⟨r,B++List.replicate na none⟩):=qaN X T na live qHs (by kernel_rfl) r B
theorem qEE(X:XEnv)(T:List Nat)(na:Nat)(live:List Nat)(r:List (Nat×AV))(B:qam):qau X T (yT na live qHq) ⟨r,B⟩=qcQ live (qb9 (qac X) X.lin T true B.length [z5 71 0,zB 72 3 6,zN 73 78 71 72 [0,1],z03 74 73 [2],zQ 75 74 [2,3],zO 76 0 75 [4],zR 77 0 3 75 [4],za 78 1 77 75 [4,6],zq 79 3 76 78 75 [4,5,7],zR 80 2 79 75 [4,8],za 81 1 80 75 [4,9],zO 82 81 75 [4,10],zZ 83 0 6 82 [11],zV 84 1 83 82 [11,12],zZ 85 0 3 82 [11],zV 86 1 85 82 [11,14],z1H 87 84 86 82 [11,13,15],zl 88 87 82 [11,16],zO 89 5 88 [17],z0q 90 89 0 88 [17,18],zO 91 90 88 [17,19],z00 92 3 6 91 [20],zZ 93 2 3 91 [20],zV 94 1 93 91 [20,22],zl 95 5 91 [20],z0M 96 95 1 91 [20,24],zo 97 3 94 96 91 [20,23,25],z00 98 3 97 91 [20,26],z0R 99 79 92 98 91 [20,21,27],zm 100 91 99 88 [17,20,28],z0n 101 88 100 82 [11,17,29],zm 102 82 101 75 [4,11,30],zc 103 75 102 [4,31]] ⟨r,B++List.replicate na none⟩):=qaN X T na live qHq (by kernel_rfl) r B
theorem qED(X:XEnv)(T:List Nat)(na:Nat)(live:List Nat)(r:List (Nat×AV))(B:qam):qau X T (yT na live qHn) ⟨r,B⟩=qcQ live (qb9 (qac X) X.lin T true B.length [z6 18 0 3,zD 19 1 18 [0],z5 20 0,z1Z 21 20 [2],z09 22 21 1 [3],⟨some 23,.call true (.c (.fn 31 [])) [.t 19,.c (.d (.int .i64 0)),.t 22],none,[1,4]⟩,z03 24 23 [5],zQ 25 24 [5,6],zR 26 1 3 25 [7],za 27 1 26 25 [7,8],z0p 28 27 0 25 [7,9],zc 29 25 28 [7,10],zQ 30 29 [7,11],zO 31 0 30 [12],zR 32 0 3 30 [12],za 33 1 32 30 [12,14],zq 34 3 31 33 30 [12,13,15],zR 35 2 34 30 [12,16],za 36 1 35 30 [12,17],z0k 37 36 30 [12,18],zO 38 37 30 [12,19],zZ 39 2 3 38 [20],zV 40 1 39 38 [20,21],z0a 41 40 38 [20,22],zl 42 0 38 [20],zZ 43 0 3 38 [20],zV 44 1 43 38 [20,25],zo 45 3 42 44 38 [20,24,26],zZ 46 1 45 38 [20,27],zV 47 1 46 38 [20,28],z1G 48 41 47 38 [20,23,29],zm 49 38 48 30 [12,20,30],zc 50 30 49 [12,31],zQ 51 50 [20,32],zO 52 0 51 [33],zR 53 0 3 51 [33],za 54 1 53 51 [33,35],zq 55 3 52 54 51 [33,34,36],zR 56 2 55 51 [33,37],za 57 1 56 51 [33,38],zO 58 57 51 [33,39],zZ 59 2 3 58 [40],zV 60 1 59 58 [40,41],z0a 61 60 58 [40,42],z0L 62 61 2 58 [40,43],zm 63 58 62 51 [33,40,44],zc 64 51 63 [33,45]] ⟨r,B++List.replicate na none⟩):=qaN X T na live qHn (by kernel_rfl) r B
theorem qq9(X:XEnv)(T:List Nat)(na:Nat)(live:List Nat)(r:List (Nat×AV))(B:qam):qau X T (yT na live qHl) ⟨r,B⟩=qcQ live (qb9 (qac X) X.lin T true B.length [z5 72 0,z6 73 0 3,zD 74 1 73 [1],zC 75 3 72 74 [0,2],zd 76 2 75 [3],zD 77 1 76 [4],zQ 78 77 [5],zZ 79 2 3 78 [6],zV 80 1 79 78 [6,7],zl 81 5 78 [6],zo 82 3 80 81 78 [6,8,9],zZ 83 0 82 78 [6,10],zV 84 1 83 78 [6,11],zZ 85 0 3 78 [6],zV 86 1 85 78 [6,13],z1H 87 84 86 78 [6,12,14],zl 88 87 78 [6,15],zO 89 5 88 [16],z0q 90 89 0 88 [16,17],zO 91 90 88 [16,18],zZ 92 2 3 91 [19],zV 93 1 92 91 [19,20],zl 94 5 91 [19],zo 95 3 93 94 91 [19,21,22],z00 96 3 95 91 [19,23],zZ 97 2 3 91 [19],zV 98 1 97 91 [19,25],zl 99 5 91 [19],z0M 100 99 1 91 [19,27],zo 101 3 98 100 91 [19,26,28],z00 102 3 101 91 [19,29],z0R 103 84 96 102 91 [19,24,30],zm 104 91 103 88 [16,19,31],z0n 105 88 104 78 [6,16,32],z0S 106 78 105 [6,33],zQ 107 106 [31,34],zO 108 0 107 [35],zR 109 2 3 107 [35],za 110 1 109 107 [35,37],zO 111 5 107 [35],zq 112 3 110 111 107 [35,38,39],z0v 113 3 112 107 [35,40],z0x 114 83 108 113 107 [35,36,41],z0k 115 114 107 [35,42],zc 116 107 115 [35,43]] ⟨r,B++List.replicate na none⟩):=qaN X T na live qHl (by kernel_rfl) r B
theorem qLg(X:XEnv)(T:List Nat)(na:Nat)(live:List Nat)(r:List (Nat×AV))(B:qam):qau X T (yT na live qBy) ⟨r,B⟩=qcQ live (qb9 (qac X) X.lin T true B.length [z6 47 2 2,zD 48 1 47 [0],z5 49 5,zC 50 3 48 49 [1,2],zI 51 3 50 [3],z6 52 2 3,zD 53 1 52 [5],z5 54 5,zC 55 3 53 54 [6,7],zI 56 3 55 [8],zN 57 3 51 56 [4,9],z03 58 57 [10]] ⟨r,B++List.replicate na none⟩):=qaN X T na live qBy (by kernel_rfl) r B
theorem qT8(X:XEnv)(T:List Nat)(na:Nat)(live:List Nat)(r:List (Nat×AV))(B:qam):qau X T (yT na live qBx) ⟨r,B⟩=qcQ live (qb9 (qac X) X.lin T true B.length [z6 59 2 2,zD 60 1 59 [0],z5 61 5,zC 62 3 60 61 [1,2],zI 63 3 62 [3],z6 64 2 3,zD 65 1 64 [5],z5 66 5,zC 67 3 65 66 [6,7],zI 68 3 67 [8],zN 69 84 63 68 [4,9],zQ 4 69 [0,1,2,3,4,5,6,7,8,9,10]] ⟨r,B++List.replicate na none⟩):=qaN X T na live qBx (by kernel_rfl) r B
theorem qUi(X:XEnv)(T:List Nat)(na:Nat)(live:List Nat)(r:List (Nat×AV))(B:qam):qau X T (yT na live qDa) ⟨r,B⟩=qcQ live (qb9 (qac X) X.lin T true B.length [z6 17 2 3,zD 18 1 17 [0],z6 19 2 1,zD 20 1 19 [2],z5 21 4,zC 22 3 20 21 [3,4],zI 23 3 22 [5],zU 24 146 23 [6],ze 25 3 0 0 1 0 24 [7],z0A 26 3 40 18 25 [1,7,8],zd 27 2 3 [0,1,2,3,4,5,6,7,8,9],zn 1 27 26 [0,1,2,3,4,5,6,7,8,9,10]] ⟨r,B++List.replicate na none⟩):=qaN X T na live qDa (by kernel_rfl) r B
theorem qUh(X:XEnv)(T:List Nat)(na:Nat)(live:List Nat)(r:List (Nat×AV))(B:qam):qau X T (.regionF true na live qC2) ⟨r,B⟩=qcQ live (xFs (qac X) X.lin T true B.length [
 .one (z6 35 2 5),.one (zD 36 1 35 [0]),.one (z6 37 2 7),
 .el 38 37 39 (.t 8) 40 3 41 [2] [] [3,4] [5],.one ⟨some 42,.call false (.c (.fn 154 [])) [.t 36,.t 41],none,[1,6]⟩,.one (zd 43 2 5 [0,1,2,3,4,5,6,7]),.one (zn 1 43 42 [0,1,2,3,4,5,6,7,8])] ⟨r,B++List.replicate na none⟩):=qLy X T na live qC2 (by kernel_rfl) r B
theorem qEM(X:XEnv)(T:List Nat)(na:Nat)(live:List Nat)(r:List (Nat×AV))(B:qam):qau X T (yT na live qC1) ⟨r,B⟩=qcQ live (qb9 (qac X) X.lin T true B.length [z5 7 5,z5 8 0,z1Z 9 8 [1],⟨some 10,.bin .lss (.t 7) (.t 9),none,[0,2]⟩,zQ 11 10 [3],z00 12 3 3 11 [4],zl 13 0 11 [4],zl 14 5 11 [4],zo 15 3 13 14 11 [4,6,7],z00 16 3 15 11 [4,8],z0R 17 84 12 16 11 [4,5,9],⟨some 18,.not (.t 17),some (11,true),[4,10]⟩,z0S 19 11 18 [4,11]] ⟨r,B++List.replicate na none⟩):=qaN X T na live qC1 (by kernel_rfl) r B
theorem qLk(X:XEnv)(T:List Nat)(na:Nat)(live:List Nat)(r:List (Nat×AV))(B:qam):qau X T (yT na live qwd) ⟨r,B⟩=qcQ live (qb9 (qac X) X.lin T true B.length [z5 18 9,z5 19 1,z1Y 20 18 19 [0,1],zQ 21 20 [2],zl 22 3 21 [3],zl 23 0 21 [3],zl 24 9 21 [3],zo 25 3 23 24 21 [3,5,6],z00 26 3 25 21 [3,7],zl 27 0 21 [3],zl 28 9 21 [3],z0M 29 28 1 21 [3,10],zo 30 3 27 29 21 [3,9,11],z00 31 3 30 21 [3,12],⟨some 32,.call false (.t 22) [.t 26,.t 31],some (21,true),[3,4,8,13]⟩,z0L 33 32 0 21 [3,14],z0S 34 21 33 [3,15]] ⟨r,B++List.replicate na none⟩):=qaN X T na live qwd (by kernel_rfl) r B
theorem qUg(X:XEnv)(T:List Nat)(na:Nat)(live:List Nat)(r:List (Nat×AV))(B:qam):qau X T (yT na live qwc) ⟨r,B⟩=qcQ live (qb9 (qac X) X.lin T true B.length [z5 37 0,z5 38 9,z5 39 0,z5 40 9,z09 41 40 1 [3],z5 42 0,z5 43 9,z09 44 43 1 [6],zC 45 3 42 44 [5,7],zI 46 3 45 [8],z5 47 0,z5 48 9,zC 49 3 47 48 [10,11],zI 50 3 49 [12],zC 51 3 37 38 [0,1,5,6,7,8,9,13],zn 3 51 46 [0,1,5,6,7,8,9,13,14],zC 52 3 39 41 [0,1,2,3,4,5,6,7,8,9,10,11,12,13,14,15],zn 3 52 50 [0,1,2,3,4,5,6,7,8,9,10,11,12,13,14,15,16]] ⟨r,B++List.replicate na none⟩):=qaN X T na live qwc (by kernel_rfl) r B
theorem qUf(X:XEnv)(T:List Nat)(na:Nat)(live:List Nat)(r:List (Nat×AV))(B:qam):qau X T (yT na live qwa) ⟨r,B⟩=qcQ live (qb9 (qac X) X.lin T true B.length [z5 40 4,z5 41 0,z5 42 12,zC 43 3 41 42 [1,2],zI 44 3 43 [3],z5 45 0,z5 46 1,zC 47 3 45 46 [5,6],zI 48 3 47 [7],z0s 49 40 44 48 [0,4,8],z0V 50 49 0 [9]] ⟨r,B++List.replicate na none⟩):=qaN X T na live qwa (by kernel_rfl) r B
theorem qOH(X:XEnv)(T:List Nat)(na:Nat)(live:List Nat)(r:List (Nat×AV))(B:qam):qau X T (yT na live qoe) ⟨r,B⟩=qcQ live (qb9 (qac X) X.lin T true B.length [z5 61 0,z5 62 13,z5 63 0,z5 64 13,z0H 65 64 1 [3],z5 66 0,z5 67 13,z0H 68 67 1 [6],zC 69 3 66 68 [5,7],zI 70 3 69 [8],z5 71 0,z5 72 13,zC 73 3 71 72 [10,11],zI 74 3 73 [12],zC 75 3 61 62 [0,1,5,6,7,8,9,13],zn 3 75 70 [0,1,5,6,7,8,9,13,14],zC 76 3 63 65 [0,1,2,3,4,5,6,7,8,9,10,11,12,13,14,15],zn 3 76 74 [0,1,2,3,4,5,6,7,8,9,10,11,12,13,14,15,16]] ⟨r,B++List.replicate na none⟩):=qaN X T na live qoe (by kernel_rfl) r B
theorem qEL(X:XEnv)(T:List Nat)(na:Nat)(live:List Nat)(r:List (Nat×AV))(B:qam):qau X T (yT na live qob) ⟨r,B⟩=qcQ live (qb9 (qac X) X.lin T true B.length [z5 92 4,z5 93 0,z5 94 2,zC 95 3 93 94 [1,2],zI 96 3 95 [3],z5 97 0,z5 98 16,zC 99 3 97 98 [5,6],zI 100 3 99 [7],z0s 101 92 96 100 [0,4,8],z0V 102 101 0 [9],z03 103 102 [10]] ⟨r,B++List.replicate na none⟩):=qaN X T na live qob (by kernel_rfl) r B
theorem qOG(X:XEnv)(T:List Nat)(na:Nat)(live:List Nat)(r:List (Nat×AV))(B:qam):qau X T (yT na live qoa) ⟨r,B⟩=qcQ live (qb9 (qac X) X.lin T true B.length [z5 113 0,z5 114 17,z5 115 0,z5 116 17,z09 117 116 1 [3],z5 118 0,z5 119 17,z09 120 119 1 [6],zC 121 3 118 120 [5,7],zI 122 3 121 [8],z5 123 0,z5 124 17,zC 125 3 123 124 [10,11],zI 126 3 125 [12],zC 127 3 113 114 [0,1,5,6,7,8,9,13],zn 3 127 122 [0,1,5,6,7,8,9,13,14],zC 128 3 115 117 [0,1,2,3,4,5,6,7,8,9,10,11,12,13,14,15],zn 3 128 126 [0,1,2,3,4,5,6,7,8,9,10,11,12,13,14,15,16]] ⟨r,B++List.replicate na none⟩):=qaN X T na live qoa (by kernel_rfl) r B
theorem qEK(X:XEnv)(T:List Nat)(na:Nat)(live:List Nat)(r:List (Nat×AV))(B:qam):qau X T (yT na live qn8) ⟨r,B⟩=qcQ live (qb9 (qac X) X.lin T true B.length [z5 158 4,z5 159 0,z5 160 22,z5 161 23,⟨some 162,.bin .sub (.t 160) (.t 161),none,[2,3]⟩,zC 163 3 159 162 [1,4],zI 164 3 163 [5],z5 165 0,z5 166 23,zC 167 3 165 166 [7,8],zI 168 3 167 [9],z0s 169 158 164 168 [0,6,10],z0V 170 169 0 [11],z03 171 170 [12]] ⟨r,B++List.replicate na none⟩):=qaN X T na live qn8 (by kernel_rfl) r B
theorem qUe(X:XEnv)(T:List Nat)(na:Nat)(live:List Nat)(r:List (Nat×AV))(B:qam):qau X T (yT na live qv8) ⟨r,B⟩=qcQ live (qb9 (qac X) X.lin T true B.length [z5 16 0,z5 17 1,z5 18 10,z0e 19 17 18 [1,2],z5 20 0,z5 21 2,z5 22 10,z0e 23 21 22 [5,6],z5 24 0,z5 25 2,z5 26 10,z0e 27 25 26 [9,10],zC 28 3 24 27 [8,11],zI 29 3 28 [12],z5 30 0,z5 31 1,z5 32 10,z0e 33 31 32 [15,16],zC 34 3 30 33 [14,17],zI 35 3 34 [18],zC 36 3 16 19 [0,1,2,3,8,9,10,11,12,13,19],zn 3 36 29 [0,1,2,3,8,9,10,11,12,13,19,20],zC 37 3 20 23 [0,1,2,3,4,5,6,7,8,9,10,11,12,13,14,15,16,17,18,19,20,21],zn 3 37 35 [0,1,2,3,4,5,6,7,8,9,10,11,12,13,14,15,16,17,18,19,20,21,22]] ⟨r,B++List.replicate na none⟩):=qaN X T na live qv8 (by kernel_rfl) r B
theorem qUd(X:XEnv)(T:List Nat)(na:Nat)(live:List Nat)(r:List (Nat×AV))(B:qam):qau X T (yT na live qCn) ⟨r,B⟩=qcQ live (qb9 (qac X) X.lin T true B.length [z5 12 3,z5 13 0,z5 14 4,zC 15 4 13 14 [1,2],zd 16 0 15 [3],zD 17 1 16 [4],z5 18 0,z5 19 4,zC 20 4 18 19 [6,7],zd 21 1 20 [8],zI 22 3 21 [9],zU 23 146 22 [10],z0T 24 0 0 0 0 1 17 1 3 23 [5,11],z0O 25 4 0 0 0 1 0 24 [12],z0A 26 4 48 12 25 [0,11,13],zQ 3 26 [0,1,2,3,4,5,6,7,8,9,10,11,12,13,14]] ⟨r,B++List.replicate na none⟩):=qaN X T na live qCn (by kernel_rfl) r B
theorem qLj(X:XEnv)(T:List Nat)(na:Nat)(live:List Nat)(r:List (Nat×AV))(B:qam):qau X T (yT na live qCm) ⟨r,B⟩=qcQ live (qb9 (qac X) X.lin T true B.length [z5 12 0,z5 13 5,zC 14 3 12 13 [0,1],zI 15 3 14 [2],zB 16 3 3,zN 17 3 15 16 [3,4]] ⟨r,B++List.replicate na none⟩):=qaN X T na live qCm (by kernel_rfl) r B
theorem qEJ(X:XEnv)(T:List Nat)(na:Nat)(live:List Nat)(r:List (Nat×AV))(B:qam):qau X T (yT na live qCh) ⟨r,B⟩=qcQ live (qb9 (qac X) X.lin T true B.length [z5 17 0,z5 18 5,zC 19 4 17 18 [0,1],zd 20 0 19 [2],zD 21 1 20 [3],z5 22 1,z5 23 5,zC 24 4 22 23 [5,6],zd 25 0 24 [7],zD 26 1 25 [8],⟨some 27,.bin .neq (.t 21) (.t 26),none,[4,9]⟩,zQ 28 27 [10],zO 29 0 28 [11],zO 30 5 28 [11],zq 31 4 29 30 28 [11,12,13],zR 32 1 31 28 [11,14],z0v 33 3 32 28 [11,15],zO 34 1 28 [11],zO 35 5 28 [11],zq 36 4 34 35 28 [11,17,18],zR 37 1 36 28 [11,19],z0v 38 3 37 28 [11,20],z0x 39 3 33 38 28 [11,16,21],z0k 40 39 28 [11,22],zc 41 28 40 [11,23]] ⟨r,B++List.replicate na none⟩):=qaN X T na live qCh (by kernel_rfl) r B
theorem qUc(X:XEnv)(T:List Nat)(na:Nat)(live:List Nat)(r:List (Nat×AV))(B:qam):qau X T (yT na live qCd) ⟨r,B⟩=qcQ live (qb9 (qac X) X.lin T true B.length [z5 13 3,z6 14 0 5,zD 15 1 14 [1],z6 16 1 5,zI 17 3 16 [3],zU 18 150 17 [4],z0T 19 0 0 0 0 1 15 1 3 18 [2,5],z0O 20 4 0 0 0 1 0 19 [6],z0A 21 4 48 13 20 [0,5,7],zQ 3 21 [0,1,2,3,4,5,6,7,8]] ⟨r,B++List.replicate na none⟩):=qaN X T na live qCd (by kernel_rfl) r B
theorem qUb(X:XEnv)(T:List Nat)(na:Nat)(live:List Nat)(r:List (Nat×AV))(B:qam):qau X T (yT na live qBZ) ⟨r,B⟩=qcQ live (qb9 (qac X) X.lin T true B.length [z5 42 0,z5 43 0,zw 44 43 [1],zd 45 1 44 [2],zD 46 1 45 [3],z5 47 2,zU 48 250 47 [5],z18 49 1 1 0 48 [6],z0A 50 1 24 46 49 [4,6,7],zw 51 42 [0,1,2,3,4,5,6,7,8],zd 52 1 51 [0,1,2,3,4,5,6,7,8,9],zn 1 52 50 [0,1,2,3,4,5,6,7,8,10]] ⟨r,B++List.replicate na none⟩):=qaN X T na live qBZ (by kernel_rfl) r B
theorem qne(X:XEnv)(T:List Nat)(na:Nat)(live:List Nat)(r:List (Nat×AV))(B:qam):qau X T (yT na live qBY) ⟨r,B⟩=qcQ live (qb9 (qac X) X.lin T true B.length [z6 66 1 6,zD 67 1 66 [0],z01 68 3 67 0 [1],zI 69 3 68 [2],z6 70 2 6,zD 71 1 70 [4],z01 72 3 71 0 [5],zI 73 3 72 [6],zK 8 0 0 0,zK 9 1 0 0,z0K 3 8 69 [0,1,2,3,8,9],z0K 3 9 73 [0,1,2,3,4,5,6,7,8,9,10]] ⟨r,B++List.replicate na none⟩):=qaN X T na live qBY (by kernel_rfl) r B
theorem qEI(X:XEnv)(T:List Nat)(na:Nat)(live:List Nat)(r:List (Nat×AV))(B:qam):qau X T (yT na live qsL) ⟨r,B⟩=qcQ live (qb9 (qac X) X.lin T true B.length [z5 90 2,z6 91 1 8,zD 92 1 91 [1],zN 93 145 90 92 [0,2],zB 94 3 9,zN 95 3 93 94 [3,4]] ⟨r,B++List.replicate na none⟩):=qaN X T na live qsL (by kernel_rfl) r B
theorem qEH(X:XEnv)(T:List Nat)(na:Nat)(live:List Nat)(r:List (Nat×AV))(B:qam):qau X T (yT na live qsK) ⟨r,B⟩=qcQ live (qb9 (qac X) X.lin T true B.length [z5 105 0,zw 106 105 [0],zd 107 0 106 [1],zD 108 1 107 [2],z6 109 0 8,zD 110 1 109 [4],zN 111 33 108 110 [3,5]] ⟨r,B++List.replicate na none⟩):=qaN X T na live qsK (by kernel_rfl) r B
theorem qOF(X:XEnv)(T:List Nat)(na:Nat)(live:List Nat)(r:List (Nat×AV))(B:qam):qau X T (yT na live qsH) ⟨r,B⟩=qcQ live (qb9 (qac X) X.lin T true B.length [z5 140 10,z6 141 2 8,zD 142 1 141 [1],z5 143 11,zC 144 3 142 143 [2,3],zI 145 3 144 [4],ze 146 3 0 0 1 0 145 [5],z6 147 2 9,zD 148 1 147 [7],z5 149 11,zC 150 3 148 149 [8,9],zI 151 3 150 [10],ze 152 3 0 0 1 0 151 [11],z0I 153 0 0 1 1 1 146 2 1 152 [6,12],z0U 154 3 0 1 0 153 [13],z0A 155 3 56 140 154 [0,14],zQ 10 155 [0,1,2,3,4,5,6,7,8,9,10,11,12,13,14,15]] ⟨r,B++List.replicate na none⟩):=qaN X T na live qsH (by kernel_rfl) r B
theorem qOE(X:XEnv)(T:List Nat)(na:Nat)(live:List Nat)(r:List (Nat×AV))(B:qam):qau X T (yT na live qsF) ⟨r,B⟩=qcQ live (qb9 (qac X) X.lin T true B.length [z5 65 0,z6 66 0 5,zD 67 1 66 [1],z5 68 9,z5 69 12,z0X 70 0 0 1 67 1 1 68 2 1 69 [2,3,4],z0U 71 3 0 1 0 70 [5],z5 72 2,z0A 73 3 56 71 72 [6,7],z5 74 3,z6 75 1 8,zD 76 1 75 [10],z5 77 0,zw 78 77 [12],zd 79 0 78 [13],zD 80 1 79 [14],z6 81 0 5,zD 82 1 81 [16],z5 83 11,zx 84 193 80 82 83 [8,15,17,18],zx 85 313 74 76 84 [9,11,19],z13 86 310 65 73 85 [0,8,20]] ⟨r,B++List.replicate na none⟩):=qaN X T na live qsF (by kernel_rfl) r B
theorem qOD(X:XEnv)(T:List Nat)(na:Nat)(live:List Nat)(r:List (Nat×AV))(B:qam):qau X T (yT na live qsC) ⟨r,B⟩=qcQ live (qb9 (qac X) X.lin T true B.length [zB 129 3 8,ze 130 3 0 0 1 0 129 [0],z6 131 2 5,zD 132 1 131 [2],z5 133 17,zC 134 3 132 133 [3,4],zI 135 3 134 [5],ze 136 3 0 0 1 0 135 [6],z0I 137 0 0 1 1 1 130 2 1 136 [1,7],z0W 18 0 0,z0K 3 18 137 [0,1,2,3,4,5,6,7,8,9]] ⟨r,B++List.replicate na none⟩):=qaN X T na live qsC (by kernel_rfl) r B
theorem qOC(X:XEnv)(T:List Nat)(na:Nat)(live:List Nat)(r:List (Nat×AV))(B:qam):qau X T (yT na live qsB) ⟨r,B⟩=qcQ live (qb9 (qac X) X.lin T true B.length [z6 138 0 5,zD 139 1 138 [0],z5 140 9,z6 141 2 5,zD 142 1 141 [3],z5 143 17,zN 144 260 142 143 [4,5],z0X 145 0 0 1 139 1 1 140 2 1 144 [1,2,6],z0W 19 0 0,z0K 3 19 145 [0,1,2,3,4,5,6,7,8]] ⟨r,B++List.replicate na none⟩):=qaN X T na live qsB (by kernel_rfl) r B
theorem qra(X:XEnv)(T:List Nat)(na:Nat)(live:List Nat)(r:List (Nat×AV))(B:qam):qau X T (yT na live qBO) ⟨r,B⟩=qcQ live (qb9 (qac X) X.lin T true B.length [z5 17 0,zw 18 17 [0],zd 19 3 18 [1],zD 20 1 19 [2],z5 21 0,zw 22 21 [4],zd 23 4 22 [5],zD 24 1 23 [6],z1Y 25 20 24 [3,7]] ⟨r,B++List.replicate na none⟩):=qaN X T na live qBO (by kernel_rfl) r B
theorem qUa(X:XEnv)(T:List Nat)(na:Nat)(live:List Nat)(r:List (Nat×AV))(B:qam):qau X T (yT na live qBN) ⟨r,B⟩=qcQ live (qb9 (qac X) X.lin T true B.length [z5 39 0,z5 40 0,zw 41 40 [1],zd 42 1 41 [2],zD 43 1 42 [3],z7 44 1 5,zU 45 266 44 [5],z18 46 1 1 0 45 [6],z0A 47 1 24 43 46 [4,6,7],zw 48 39 [0,1,2,3,4,5,6,7,8],zd 49 1 48 [0,1,2,3,4,5,6,7,8,9],zn 1 49 47 [0,1,2,3,4,5,6,7,8,10]] ⟨r,B++List.replicate na none⟩):=qaN X T na live qBN (by kernel_rfl) r B
theorem qLi(X:XEnv)(T:List Nat)(na:Nat)(live:List Nat)(r:List (Nat×AV))(B:qam):qau X T (yT na live qBM) ⟨r,B⟩=qcQ live (qb9 (qac X) X.lin T true B.length [z5 50 1,z01 51 4 50 0 [0],zI 52 4 51 [1],z5 53 1,z0f 54 4 53 1 [3],z1S 6 0 0,z0K 4 6 52 [0,1,2,5],zQ 7 54 [0,1,2,3,4,5,6]] ⟨r,B++List.replicate na none⟩):=qaN X T na live qBM (by kernel_rfl) r B
theorem qOB(X:XEnv)(T:List Nat)(na:Nat)(live:List Nat)(r:List (Nat×AV))(B:qam):qau X T (yT na live qsz) ⟨r,B⟩=qcQ live (qb9 (qac X) X.lin T true B.length [z5 62 0,z6 63 2 6,zD 64 1 63 [1],z01 65 3 64 0 [2],zI 66 3 65 [3],z6 67 3 6,zD 68 1 67 [5],z01 69 3 68 0 [6],zI 70 3 69 [7],z5 71 7,z7 72 1 5,⟨some 73,.call false (.c (.fn 322 [])) [.t 62,.t 66,.t 70,.t 71,.t 72],none,[0,4,8,9,10]⟩] ⟨r,B++List.replicate na none⟩):=qaN X T na live qsz (by kernel_rfl) r B
theorem qLh(X:XEnv)(T:List Nat)(na:Nat)(live:List Nat)(r:List (Nat×AV))(B:qam):qau X T (yT na live qBK) ⟨r,B⟩=qcQ live (qb9 (qac X) X.lin T true B.length [z5 3 0,zw 4 3 [0],zd 5 5 4 [1],zD 6 1 5 [2],zQ 7 6 [3],zO 8 0 7 [4],z1T 9 8 7 [4,5],zR 10 1 9 7 [4,6],za 11 1 10 7 [4,7],⟨some 12,.len false (.t 11),some (7,false),[4,8]⟩,zO 13 0 7 [4],z1T 14 13 7 [4,10],zR 15 2 14 7 [4,11],za 16 1 15 7 [4,12],⟨some 17,.bin .gtr (.t 12) (.t 16),some (7,false),[4,9,13]⟩,zc 18 7 17 [4,14],zQ 2 18 [0,1,2,3,4,5,6,7,8,9,10,11,12,13,14,15]] ⟨r,B++List.replicate na none⟩):=qaN X T na live qBK (by kernel_rfl) r B
theorem qOA(X:XEnv)(T:List Nat)(na:Nat)(live:List Nat)(r:List (Nat×AV))(B:qam):qau X T (yT na live qsy) ⟨r,B⟩=qcQ live (qb9 (qac X) X.lin T true B.length [z5 50 9,z6 51 3 5,zD 52 1 51 [1],z5 53 10,zN 54 284 52 53 [2,3],zB 55 3 8,ze 56 3 0 0 1 0 55 [5],zB 57 3 11,ze 58 3 0 0 1 0 57 [7],z0Q 59 0 2 1 56 3 1 58 [6,8],z06 60 4 0 1 0 59 [9],z5 61 3,⟨some 62,.call false (.t 50) [.t 54,.t 60,.t 61],none,[0,4,10,11]⟩] ⟨r,B++List.replicate na none⟩):=qaN X T na live qsy (by kernel_rfl) r B
theorem qOz(X:XEnv)(T:List Nat)(na:Nat)(live:List Nat)(r:List (Nat×AV))(B:qam):qau X T (yT na live qsw) ⟨r,B⟩=qcQ live (qb9 (qac X) X.lin T true B.length [z5 130 9,z5 131 19,z5 132 3,z6 133 1 8,zD 134 1 133 [3],z7 135 1 4,zw 136 135 [5],zd 137 0 136 [6],zD 138 1 137 [7],z6 139 1 5,zD 140 1 139 [9],z5 141 18,zx 142 192 138 140 141 [8,10,11],zx 143 323 132 134 142 [2,4,12],⟨some 144,.call false (.t 130) [.t 131,.c (.d (.sl .nil [])),.t 143],none,[0,1,13]⟩] ⟨r,B++List.replicate na none⟩):=qaN X T na live qsw (by kernel_rfl) r B
theorem qEG(X:XEnv)(T:List Nat)(na:Nat)(live:List Nat)(r:List (Nat×AV))(B:qam):qau X T (yT na live qBH) ⟨r,B⟩=qcQ live (qb9 (qac X) X.lin T true B.length [z5 47 0,zw 48 47 [0],zd 49 0 48 [1],zD 50 1 49 [2],z6 51 0 6,zD 52 1 51 [4],zN 53 34 50 52 [3,5]] ⟨r,B++List.replicate na none⟩):=qaN X T na live qBH (by kernel_rfl) r B
theorem qOy(X:XEnv)(T:List Nat)(na:Nat)(live:List Nat)(r:List (Nat×AV))(B:qam):qau X T (yT na live qst) ⟨r,B⟩=qcQ live (qb9 (qac X) X.lin T true B.length [z5 81 12,z6 82 2 6,zD 83 1 82 [1],z5 84 13,z5 85 13,z0H 86 85 1 [4],z0w 87 3 83 84 86 [2,3,5],z6 88 2 7,zD 89 1 88 [7],z5 90 13,z5 91 13,z0H 92 91 1 [10],z0w 93 3 89 90 92 [8,9,11],z0Q 94 0 2 1 87 3 1 93 [6,12],z06 95 4 0 1 0 94 [13],z0A 96 4 64 81 95 [0,14],zQ 12 96 [0,1,2,3,4,5,6,7,8,9,10,11,12,13,14,15]] ⟨r,B++List.replicate na none⟩):=qaN X T na live qst (by kernel_rfl) r B
theorem qT9(X:XEnv)(T:List Nat)(na:Nat)(live:List Nat)(r:List (Nat×AV))(B:qam):qau X T (yT na live qBG) ⟨r,B⟩=qcQ live (qb9 (qac X) X.lin T true B.length [z7 9 1 3,z5 10 1,z6 11 1 4,zD 12 1 11 [2],z6 13 2 4,zD 14 1 13 [4],z0f 15 3 14 1 [5],z5 16 0,⟨some 17,.build [.bool false,.int .i64 0,.sl .nil [],.sl .nil []] [(0,1,.c (.d (.bool true))),(1,1,.t 12),(2,1,.t 15),(3,1,.t 16)],none,[3,6,7]⟩,z06 18 4 0 1 0 17 [8],z7 19 1 5,⟨some 20,.buildSlice 1 (.sl .nil []) 3 [(0,.t 10),(1,.t 18),(2,.t 19)],none,[1,9,10]⟩,zU 21 328 20 [11],z5 22 2,z13 23 318 9 21 22 [0,12,13]] ⟨r,B++List.replicate na none⟩):=qaN X T na live qBG (by kernel_rfl) r B
theorem qOx(X:XEnv)(T:List Nat)(na:Nat)(live:List Nat)(r:List (Nat×AV))(B:qam):qau X T (yT na live qsr) ⟨r,B⟩=qcQ live (qb9 (qac X) X.lin T true B.length [z5 36 0,zU 37 12 36 [0],zB 38 3 4,zU 39 2 38 [1,2],zB 40 3 5,zU 41 2 40 [3,4],zx 42 370 37 39 41 [1,3,5],zQ 35 42 [6],z10 43 35 0 [7],z10 44 35 1 [7],zQ 8 43 [0,1,2,3,4,5,6,7,8],zQ 9 44 [0,1,2,3,4,5,6,7,8,9,10]] ⟨r,B++List.replicate na none⟩):=qaN X T na live qsr (by kernel_rfl) r B
theorem qOw(X:XEnv)(T:List Nat)(na:Nat)(live:List Nat)(r:List (Nat×AV))(B:qam):qau X T (yT na live qsq) ⟨r,B⟩=qcQ live (qb9 (qac X) X.lin T true B.length [zB 72 3 11,zB 73 3 4,zU 74 2 73 [1],z16 75 5 72 74 [0,2],z03 76 75 [3]] ⟨r,B++List.replicate na none⟩):=qaN X T na live qsq (by kernel_rfl) r B
theorem qOv(X:XEnv)(T:List Nat)(na:Nat)(live:List Nat)(r:List (Nat×AV))(B:qam):qau X T (yT na live qsp) ⟨r,B⟩=qcQ live (qb9 (qac X) X.lin T true B.length [zB 77 3 12,zB 78 3 5,zU 79 2 78 [1],z16 80 5 77 79 [0,2],z03 81 80 [3]] ⟨r,B++List.replicate na none⟩):=qaN X T na live qsp (by kernel_rfl) r B
theorem qOu(X:XEnv)(T:List Nat)(na:Nat)(live:List Nat)(r:List (Nat×AV))(B:qam):qau X T (yT na live qso) ⟨r,B⟩=qcQ live (qb9 (qac X) X.lin T true B.length [z5 116 0,zU 117 12 116 [0],zB 118 3 4,zU 119 2 118 [1,2],zB 120 3 5,zU 121 2 120 [3,4],zx 122 336 117 119 121 [1,3,5],zQ 115 122 [6],z10 123 115 0 [7],z10 124 115 1 [7],zQ 18 123 [0,1,2,3,4,5,6,7,8],zQ 19 124 [0,1,2,3,4,5,6,7,8,9,10]] ⟨r,B++List.replicate na none⟩):=qaN X T na live qso (by kernel_rfl) r B
theorem qDv:∀{l:List (Nat×VFn)} {k:Nat} {v:VFn},look l k=some v->(k,v)∈l
 | [],_,_,h=>by simp[look]at h
 |(a,u)::r,k,v,h=>by
  simp only[look]at h;split at h
  ·rename_i hk
   simp at h;subst h;subst hk;simp
  ·exact List.mem_cons_of_mem _ (qDv h)
theorem qNv:qOJ.all (fun q=>q.2.linOK (qqw qNt q.1))=true:=by kernel_rfl
theorem qGU:qMm.all (fun q=>q.2.pre.linOK (qqw qNt q.1)&&q.2.rest.linOK (qqw qNt q.1)&&qat (qqw qNt q.1) (q.2.results.flatMap VRes.vx)&&(qqw qNt q.1).all (fun j=>decide (q.2.np<=j)))=true:=by kernel_rfl
theorem qwE:∀q,q∈qHS->qrK q.2 (ql4 q.2)/\qqw qNt q.1=[]:=yc_.2 ⟨⟨qOW,by kernel_rfl⟩,yc_.2 ⟨⟨qr2,by kernel_rfl⟩,yc_.2 ⟨⟨qNd,by kernel_rfl⟩,List.forall_mem_nil _⟩⟩⟩
theorem xok:XOK XV:=⟨fun f vf h=>List.all_eq_true.1 qNv (f,vf) (qDv h),fun f g h=>⟨ql4 g,by show(qlk qHS f).map ql4=_;rw[show qlk qHS f=some g from h];rfl,(qwE (f,g) (qhy h)).1,(qwE (f,g) (qhy h)).2⟩,fun f h=>by show(qlk qHS f).map ql4=_;rw[show qlk qHS f=none from h];rfl,fun f sf h=>by
 have:=List.all_eq_true.1 qGU (f,sf) (qlj h);simp only[Bool.and_eq_true]at this;exact⟨this.1.1.1,this.1.1.2,this.1.2,this.2⟩⟩
end Go.Proofs.YtbcbkiaineacpaaGreat.VS
