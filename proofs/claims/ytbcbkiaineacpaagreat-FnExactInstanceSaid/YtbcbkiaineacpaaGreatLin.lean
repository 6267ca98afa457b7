/- Which registers of each function may own rows; the functions for the evaluator without names. -/
import Derived.Test.YtbcbkiaineacpaaGreatNat2
import Derived.Test.YtbcbkiaineacpaaGreatCode
import Derived.KernelRfl
set_option linter.unusedVariables false
namespace Go.Proofs.YtbcbkiaineacpaaGreat.VS
def qJE:List (Nat×List Nat):=[(2,[12,14]),(8,[2,3,20,22]),(12,[2,3,22]),(25,[15]),(78,[70]),(145,[24,26]),(146,[9,18,24,25,26,28]),(147,[4]),(148,[13,19,21]),(150,[5,7]),(151,[2,3,6,12,13,15,16,17,19]),(153,[13,27,36,41,42,51,52,53,54,63,64,65,67]),(154,[0,1,4,6,22,25,26,27,28,29,30,31,34,35]),(164,[6,7]),(169,[5,8,15,18,30,32,33,34,35,36,37,45,47]),(172,[46,50]),(173,[70,74,122,126]),(175,[29,35]),(192,[14,15,27,43,46,48]),(193,[15,28,38,43]),(197,[2,3,5,12,17,18,19,20]),(250,[2,3,5,12,23,24,25,26,27]),(260,[4,5,6,10,11,16]),(266,[2,3,6,12,13,18,19,20,21,23]),(282,[4,14,22,24]),(289,[21,25]),(306,[6,8,10,25,26,27,30,31,32,33,34,50,54]),(307,[6,23,24,27,28,29,30,31,39]),(310,[7,10,46,48,49,50,55,69,73,116,118,119,120,121,125,140,145,146,151,152,153,154,155,157,158]),(311,[9,12,15,35,58,62,64,68,69,70,71,72,93,94,103,107,108,114,115,116,117,118,129,130,135,136,137,140,144,145,147,148,149,150]),(313,[6,7,10,28,31,32,33,34,35,39,40,41,44,47,48,49,50,51]),(315,[4,5,6,7,9,10,22,26,27,28,29,33,34,35,36,37]),(316,[4,6,9,24,27,28]),(318,[43,45,46,47,52]),(321,[18,19,37,49,55,56,57,58,59,64,68,69,72,106,107,115,121,122,123,124,125,126,127,128]),(322,[12,16,20,21,58,60,61,62,63,74,81,94,95,96,99,100]),(327,[10,16,17,18,19]),(335,[9,13]),(336,[6,8,10,14,15,24,25,26]),(370,[6,20,23]),(371,[38,40]),(372,[9,13])]
def qrZ:List (Nat×List Nat)->Nat->List Nat
 | [],_=>[]
 |(k,v)::r,n=>if n=k then v else qrZ r n
noncomputable def XV:XEnv:=⟨E,qrZ qJE,ql2 qFQ⟩
@[simp] theorem qTL:XV.lin 1=[]:=by kernel_rfl
theorem qIu:XV.env.code 1=some v1:=by kernel_rfl
@[simp] theorem qTK:XV.lin 2=[12,14]:=by kernel_rfl
theorem qIt:XV.env.code 2=some v2:=by kernel_rfl
@[simp] theorem qTJ:XV.lin 3=[]:=by kernel_rfl
theorem qIs:XV.env.code 3=some v3:=by kernel_rfl
@[simp] theorem qTI:XV.lin 4=[]:=by kernel_rfl
theorem qIr:XV.env.code 4=some v4:=by kernel_rfl
@[simp] theorem qTH:XV.lin 5=[]:=by kernel_rfl
theorem qIq:XV.env.code 5=some v5:=by kernel_rfl
@[simp] theorem qTG:XV.lin 6=[]:=by kernel_rfl
theorem qzh:XV.env.code 6=some v6:=by kernel_rfl
@[simp] theorem qTF:XV.lin 7=[]:=by kernel_rfl
theorem qIp:XV.env.code 7=some v7:=by kernel_rfl
@[simp] theorem qRe:XV.lin 8=[2,3,20,22]:=by kernel_rfl
theorem qIo:XV.env.code 8=some v8:=by kernel_rfl
@[simp] theorem qTE:XV.lin 9=[]:=by kernel_rfl
theorem qIn:XV.env.code 9=some v9:=by kernel_rfl
@[simp] theorem qTa:XV.lin 11=[]:=by kernel_rfl
theorem qEM:XV.env.code 11=some v11:=by kernel_rfl
@[simp] theorem qOz:XV.lin 12=[2,3,22]:=by kernel_rfl
theorem qEL:XV.env.code 12=some v12:=by kernel_rfl
@[simp] theorem qS9:XV.lin 13=[]:=by kernel_rfl
theorem qEK:XV.env.code 13=some v13:=by kernel_rfl
@[simp] theorem qS8:XV.lin 14=[]:=by kernel_rfl
theorem qEJ:XV.env.code 14=some v14:=by kernel_rfl
@[simp] theorem qS7:XV.lin 15=[]:=by kernel_rfl
theorem qEI:XV.env.code 15=some v15:=by kernel_rfl
@[simp] theorem qS6:XV.lin 16=[]:=by kernel_rfl
theorem qEH:XV.env.code 16=some v16:=by kernel_rfl
@[simp] theorem qS5:XV.lin 17=[]:=by kernel_rfl
theorem qEG:XV.env.code 17=some v17:=by kernel_rfl
@[simp] theorem qS4:XV.lin 18=[]:=by kernel_rfl
theorem qEF:XV.env.code 18=some v18:=by kernel_rfl
@[simp] theorem qOy:XV.lin 19=[]:=by kernel_rfl
theorem qEE:XV.env.code 19=some v19:=by kernel_rfl
@[simp] theorem qS3:XV.lin 20=[]:=by kernel_rfl
theorem qED:XV.env.code 20=some v20:=by kernel_rfl
@[simp] theorem qS2:XV.lin 22=[]:=by kernel_rfl
theorem qEC:XV.env.code 22=some v22:=by kernel_rfl
@[simp] theorem qS1:XV.lin 23=[]:=by kernel_rfl
theorem qEB:XV.env.code 23=some v23:=by kernel_rfl
@[simp] theorem qS0:XV.lin 24=[]:=by kernel_rfl
theorem qEA:XV.env.code 24=some v24:=by kernel_rfl
@[simp] theorem qOx:XV.lin 25=[15]:=by kernel_rfl
theorem qEz:XV.env.code 25=some v25:=by kernel_rfl
@[simp] theorem qSZ:XV.lin 29=[]:=by kernel_rfl
theorem qEy:XV.env.code 29=some v29:=by kernel_rfl
@[simp] theorem qSY:XV.lin 30=[]:=by kernel_rfl
theorem qEx:XV.env.code 30=some v30:=by kernel_rfl
@[simp] theorem qSX:XV.lin 31=[]:=by kernel_rfl
theorem qEw:XV.env.code 31=some v31:=by kernel_rfl
@[simp] theorem qSW:XV.lin 33=[]:=by kernel_rfl
theorem qEv:XV.env.code 33=some v33:=by kernel_rfl
@[simp] theorem qSV:XV.lin 34=[]:=by kernel_rfl
theorem qEu:XV.env.code 34=some v34:=by kernel_rfl
@[simp] theorem qSU:XV.lin 59=[]:=by kernel_rfl
theorem qEt:XV.env.code 59=some v59:=by kernel_rfl
@[simp] theorem qST:XV.lin 60=[]:=by kernel_rfl
theorem qEs:XV.env.code 60=some v60:=by kernel_rfl
@[simp] theorem qSS:XV.lin 61=[]:=by kernel_rfl
theorem qEr:XV.env.code 61=some v61:=by kernel_rfl
@[simp] theorem qSR:XV.lin 62=[]:=by kernel_rfl
theorem qEq:XV.env.code 62=some v62:=by kernel_rfl
@[simp] theorem qSQ:XV.lin 70=[]:=by kernel_rfl
theorem qEp:XV.env.code 70=some v70:=by kernel_rfl
@[simp] theorem qSP:XV.lin 75=[]:=by kernel_rfl
theorem qEo:XV.env.code 75=some v75:=by kernel_rfl
@[simp] theorem qOw:XV.lin 77=[]:=by kernel_rfl
theorem qEn:XV.env.code 77=some v77:=by kernel_rfl
@[simp] theorem qCd:XV.lin 78=[70]:=by kernel_rfl
theorem qEm:XV.env.code 78=some v78:=by kernel_rfl
@[simp] theorem qSO:XV.lin 79=[]:=by kernel_rfl
theorem qEl:XV.env.code 79=some v79:=by kernel_rfl
@[simp] theorem qSN:XV.lin 80=[]:=by kernel_rfl
theorem qEk:XV.env.code 80=some v80:=by kernel_rfl
@[simp] theorem qOv:XV.lin 82=[]:=by kernel_rfl
theorem qEj:XV.env.code 82=some v82:=by kernel_rfl
@[simp] theorem qCc:XV.lin 83=[]:=by kernel_rfl
theorem qEi:XV.env.code 83=some v83:=by kernel_rfl
@[simp] theorem qSM:XV.lin 84=[]:=by kernel_rfl
theorem qEh:XV.env.code 84=some v84:=by kernel_rfl
@[simp] theorem qJ3:XV.lin 145=[24,26]:=by kernel_rfl
theorem qz1:XV.env.code 145=some qMd:=by kernel_rfl
@[simp] theorem qJ2:XV.lin 146=[9,18,24,25,26,28]:=by kernel_rfl
theorem qz0:XV.env.code 146=some qLc:=by kernel_rfl
@[simp] theorem qRI:XV.lin 147=[4]:=by kernel_rfl
theorem qzZ:XV.env.code 147=some qMc:=by kernel_rfl
@[simp] theorem qJ1:XV.lin 148=[13,19,21]:=by kernel_rfl
theorem qzY:XV.env.code 148=some qMb:=by kernel_rfl
@[simp] theorem qRH:XV.lin 150=[5,7]:=by kernel_rfl
theorem qzX:XV.env.code 150=some qMa:=by kernel_rfl
@[simp] theorem qJ0:XV.lin 151=[2,3,6,12,13,15,16,17,19]:=by kernel_rfl
theorem qzW:XV.env.code 151=some qL9:=by kernel_rfl
@[simp] theorem qCf:XV.lin 153=[13,27,36,41,42,51,52,53,54,63,64,65,67]:=by kernel_rfl
theorem qzV:XV.env.code 153=some qL8:=by kernel_rfl
@[simp] theorem qJZ:XV.lin 154=[0,1,4,6,22,25,26,27,28,29,30,31,34,35]:=by kernel_rfl
theorem qzU:XV.env.code 154=some qL7:=by kernel_rfl
@[simp] theorem qRG:XV.lin 164=[6,7]:=by kernel_rfl
theorem qzT:XV.env.code 164=some qL6:=by kernel_rfl
@[simp] theorem qRF:XV.lin 170=[]:=by kernel_rfl
theorem qqG:XV.env.code 170=some qIN:=by kernel_rfl
@[simp] theorem qRE:XV.lin 171=[]:=by kernel_rfl
theorem qqF:XV.env.code 171=some qIM:=by kernel_rfl
@[simp] theorem qRD:XV.lin 172=[46,50]:=by kernel_rfl
theorem qky:XV.env.code 172=some qEW:=by kernel_rfl
@[simp] theorem qRC:XV.lin 173=[70,74,122,126]:=by kernel_rfl
theorem qkx:XV.env.code 173=some qEV:=by kernel_rfl
@[simp] theorem qRB:XV.lin 174=[]:=by kernel_rfl
theorem qzS:XV.env.code 174=some qL5:=by kernel_rfl
@[simp] theorem qRA:XV.lin 175=[29,35]:=by kernel_rfl
theorem qzR:XV.env.code 175=some qL4:=by kernel_rfl
@[simp] theorem qRz:XV.lin 192=[14,15,27,43,46,48]:=by kernel_rfl
theorem qzQ:XV.env.code 192=some qEU:=by kernel_rfl
@[simp] theorem qRy:XV.lin 193=[15,28,38,43]:=by kernel_rfl
theorem qzP:XV.env.code 193=some qET:=by kernel_rfl
@[simp] theorem qJX:XV.lin 197=[2,3,5,12,17,18,19,20]:=by kernel_rfl
theorem qzO:XV.env.code 197=some qL3:=by kernel_rfl
@[simp] theorem qJW:XV.lin 249=[]:=by kernel_rfl
theorem qzN:XV.env.code 249=some qLb:=by kernel_rfl
@[simp] theorem qJV:XV.lin 250=[2,3,5,12,23,24,25,26,27]:=by kernel_rfl
theorem qzM:XV.env.code 250=some qLa:=by kernel_rfl
@[simp] theorem qJU:XV.lin 259=[]:=by kernel_rfl
theorem qzL:XV.env.code 259=some qK9:=by kernel_rfl
@[simp] theorem qRx:XV.lin 260=[4,5,6,10,11,16]:=by kernel_rfl
theorem qzK:XV.env.code 260=some qL2:=by kernel_rfl
@[simp] theorem qJT:XV.lin 261=[]:=by kernel_rfl
theorem qzJ:XV.env.code 261=some qIL:=by kernel_rfl
@[simp] theorem qRw:XV.lin 265=[]:=by kernel_rfl
theorem qzI:XV.env.code 265=some qL1:=by kernel_rfl
@[simp] theorem qJS:XV.lin 266=[2,3,6,12,13,18,19,20,21,23]:=by kernel_rfl
theorem qzH:XV.env.code 266=some qK8:=by kernel_rfl
@[simp] theorem qJR:XV.lin 269=[]:=by kernel_rfl
theorem qzG:XV.env.code 269=some qK7:=by kernel_rfl
@[simp] theorem qJQ:XV.lin 281=[]:=by kernel_rfl
theorem qzF:XV.env.code 281=some qK6:=by kernel_rfl
@[simp] theorem qJP:XV.lin 282=[4,14,22,24]:=by kernel_rfl
theorem qzE:XV.env.code 282=some qK5:=by kernel_rfl
@[simp] theorem qRv:XV.lin 283=[]:=by kernel_rfl
theorem qzD:XV.env.code 283=some qL0:=by kernel_rfl
@[simp] theorem qRu:XV.lin 288=[]:=by kernel_rfl
theorem qzC:XV.env.code 288=some qLZ:=by kernel_rfl
@[simp] theorem qJO:XV.lin 289=[21,25]:=by kernel_rfl
theorem qzB:XV.env.code 289=some qIK:=by kernel_rfl
@[simp] theorem qRt:XV.lin 290=[]:=by kernel_rfl
theorem qzA:XV.env.code 290=some qK4:=by kernel_rfl
@[simp] theorem qRs:XV.lin 306=[6,8,10,25,26,27,30,31,32,33,34,50,54]:=by kernel_rfl
theorem qzz:XV.env.code 306=some qD3:=by kernel_rfl
@[simp] theorem qRr:XV.lin 307=[6,23,24,27,28,29,30,31,39]:=by kernel_rfl
theorem qzy:XV.env.code 307=some qES:=by kernel_rfl
@[simp] theorem qJN:XV.lin 309=[]:=by kernel_rfl
theorem qzx:XV.env.code 309=some qGY:=by kernel_rfl
@[simp] theorem qJM:XV.lin 310=[7,10,46,48,49,50,55,69,73,116,118,119,120,121,125,140,145,146,151,152,153,154,155,157,158]:=by kernel_rfl
theorem qdw:XV.env.code 310=some qhA:=by kernel_rfl
@[simp] theorem qCe:XV.lin 311=[9,12,15,35,58,62,64,68,69,70,71,72,93,94,103,107,108,114,115,116,117,118,129,130,135,136,137,140,144,145,147,148,149,150]:=by kernel_rfl
theorem qhC:XV.env.code 311=some qqN:=by kernel_rfl
@[simp] theorem qJL:XV.lin 312=[]:=by kernel_rfl
theorem qzw:XV.env.code 312=some qK3:=by kernel_rfl
@[simp] theorem qJK:XV.lin 313=[6,7,10,28,31,32,33,34,35,39,40,41,44,47,48,49,50,51]:=by kernel_rfl
theorem qzv:XV.env.code 313=some qIJ:=by kernel_rfl
@[simp] theorem qRq:XV.lin 314=[]:=by kernel_rfl
theorem qzu:XV.env.code 314=some qK2:=by kernel_rfl
@[simp] theorem qJJ:XV.lin 315=[4,5,6,7,9,10,22,26,27,28,29,33,34,35,36,37]:=by kernel_rfl
theorem qzt:XV.env.code 315=some qK1:=by kernel_rfl
@[simp] theorem qJI:XV.lin 316=[4,6,9,24,27,28]:=by kernel_rfl
theorem qzs:XV.env.code 316=some qK0:=by kernel_rfl
@[simp] theorem qRp:XV.lin 317=[]:=by kernel_rfl
theorem qzr:XV.env.code 317=some qLY:=by kernel_rfl
@[simp] theorem qRo:XV.lin 318=[43,45,46,47,52]:=by kernel_rfl
theorem qgc:XV.env.code 318=some quZ:=by kernel_rfl
@[simp] theorem qRn:XV.lin 319=[]:=by kernel_rfl
theorem qzq:XV.env.code 319=some qKZ:=by kernel_rfl
@[simp] theorem qRm:XV.lin 320=[]:=by kernel_rfl
theorem qzp:XV.env.code 320=some qLX:=by kernel_rfl
@[simp] theorem qub:XV.lin 321=[18,19,37,49,55,56,57,58,59,64,68,69,72,106,107,115,121,122,123,124,125,126,127,128]:=by kernel_rfl
theorem qhB:XV.env.code 321=some qqv:=by kernel_rfl
@[simp] theorem qJH:XV.lin 322=[12,16,20,21,58,60,61,62,63,74,81,94,95,96,99,100]:=by kernel_rfl
theorem qfr:XV.env.code 322=some qqM:=by kernel_rfl
@[simp] theorem qRl:XV.lin 327=[10,16,17,18,19]:=by kernel_rfl
theorem qzo:XV.env.code 327=some qLW:=by kernel_rfl
@[simp] theorem qRk:XV.lin 330=[]:=by kernel_rfl
theorem qzn:XV.env.code 330=some qII:=by kernel_rfl
@[simp] theorem qRj:XV.lin 335=[9,13]:=by kernel_rfl
theorem qzm:XV.env.code 335=some qLV:=by kernel_rfl
@[simp] theorem qRi:XV.lin 336=[6,8,10,14,15,24,25,26]:=by kernel_rfl
theorem qzl:XV.env.code 336=some qIH:=by kernel_rfl
@[simp] theorem qRh:XV.lin 370=[6,20,23]:=by kernel_rfl
theorem qzk:XV.env.code 370=some qIG:=by kernel_rfl
@[simp] theorem qRg:XV.lin 371=[38,40]:=by kernel_rfl
theorem qzj:XV.env.code 371=some qGX:=by kernel_rfl
@[simp] theorem qRf:XV.lin 372=[9,13]:=by kernel_rfl
theorem qzi:XV.env.code 372=some qLU:=by kernel_rfl
@[simp] theorem qJY:XV.lin 169=[5,8,15,18,30,32,33,34,35,36,37,45,47]:=by kernel_rfl
theorem qza:XV.env.code 169=none:=by kernel_rfl
theorem qy6:XV.env.spec 169=some qq2:=by kernel_rfl
theorem qTg(X:XEnv)(T:List Nat)(na:Nat)(live:List Nat)(r:List (Nat×AV))(B:qao):qay X T (yT na live qQy) ⟨r,B⟩=qdT live (qcl (qac X) X.lin T true B.length [z6 34 2 2,zD 35 1 34 [0],z5 36 5,zA 37 3 35 36 [1,2],zH 38 3 37 [3],z6 39 2 3,zD 40 1 39 [5],z5 41 5,zA 42 3 40 41 [6,7],zH 43 3 42 [8],zN 44 3 38 43 [4,9],z08 45 44 [10]] ⟨r,B++List.replicate na none⟩):=qaM X T na live qQy (by kernel_rfl) r B
theorem qGp(X:XEnv)(T:List Nat)(na:Nat)(live:List Nat)(r:List (Nat×AV))(B:qao):qay X T (yT na live qI8) ⟨r,B⟩=qdT live (qcl (qac X) X.lin T true B.length [z6 51 2 2,zD 52 1 51 [0],z5 53 7,zA 54 3 52 53 [1,2],zH 55 3 54 [3],z6 56 2 3,zD 57 1 56 [5],z5 58 7,zA 59 3 57 58 [6,7],zH 60 3 59 [8],zN 61 6 55 60 [4,9],za 8 61 [0,1,2,3,4,5,6,7,8,9,10]] ⟨r,B++List.replicate na none⟩):=qaM X T na live qI8 (by kernel_rfl) r B
theorem qTN(X:XEnv)(T:List Nat)(na:Nat)(live:List Nat)(r:List (Nat×AV))(B:qao):qay X T (yT na live qQq) ⟨r,B⟩=qdT live (qcl (qac X) X.lin T true B.length [z5 17 0,z5 18 5,zA 19 3 17 18 [0,1],zH 20 3 19 [2],z5 21 1,z5 22 5,zA 23 3 21 22 [4,5],zH 24 3 23 [6],zN 25 5 20 24 [3,7],z08 26 25 [8]] ⟨r,B++List.replicate na none⟩):=qaM X T na live qQq (by kernel_rfl) r B
theorem qGq(X:XEnv)(T:List Nat)(na:Nat)(live:List Nat)(r:List (Nat×AV))(B:qao):qay X T (yT na live qJq) ⟨r,B⟩=qdT live (qcl (qac X) X.lin T true B.length [z5 17 0,z5 18 5,zA 19 3 17 18 [0,1],zH 20 3 19 [2],z5 21 1,z5 22 5,zA 23 3 21 22 [4,5],zH 24 3 23 [6],zN 25 20 20 24 [3,7],z08 26 25 [8]] ⟨r,B++List.replicate na none⟩):=qaM X T na live qJq (by kernel_rfl) r B
theorem qDf(X:XEnv)(T:List Nat)(na:Nat)(live:List Nat)(r:List (Nat×AV))(B:qao):qay X T (yT na live qFE) ⟨r,B⟩=qdT live (qcl (qac X) X.lin T true B.length [z5 18 0,z6 19 0 3,zD 20 1 19 [1],zN 21 29 18 20 [0,2],z08 22 21 [3],za 23 22 [3,4],zQ 24 1 3 23 [5],zX 25 1 24 23 [5,6],z0q 26 25 0 23 [5,7],zZ 27 23 26 [5,8],za 28 27 [5,9],zO 29 0 28 [10],zQ 30 0 3 28 [10],zX 31 1 30 28 [10,12],zl 32 3 29 31 28 [10,11,13],zQ 33 2 32 28 [10,14],zX 34 1 33 28 [10,15],z0l 35 34 28 [10,16],zO 36 35 28 [10,17],zW 37 2 3 36 [18],zU 38 1 37 36 [18,19],z0b 39 38 36 [18,20],zg 40 0 36 [18],zW 41 0 3 36 [18],zU 42 1 41 36 [18,23],zj 43 3 40 42 36 [18,22,24],zW 44 1 43 36 [18,25],zU 45 1 44 36 [18,26],z1D 46 39 45 36 [18,21,27],zh 47 36 46 28 [10,18,28],zZ 48 28 47 [10,29],za 49 48 [18,30],zO 50 0 49 [31],zQ 51 0 3 49 [31],zX 52 1 51 49 [31,33],zl 53 3 50 52 49 [31,32,34],zQ 54 2 53 49 [31,35],zX 55 1 54 49 [31,36],zO 56 55 49 [31,37],zW 57 2 3 56 [38],zU 58 1 57 56 [38,39],z0b 59 58 56 [38,40],z0M 60 59 2 56 [38,41],zh 61 56 60 49 [31,38,42],zZ 62 49 61 [31,43]] ⟨r,B++List.replicate na none⟩):=qaM X T na live qFE (by kernel_rfl) r B
theorem qDe(X:XEnv)(T:List Nat)(na:Nat)(live:List Nat)(r:List (Nat×AV))(B:qao):qay X T (yT na live qFC) ⟨r,B⟩=qdT live (qcl (qac X) X.lin T true B.length [z5 71 0,z9 72 3 6,zN 73 78 71 72 [0,1],z08 74 73 [2],za 75 74 [2,3],zO 76 0 75 [4],zQ 77 0 3 75 [4],zX 78 1 77 75 [4,6],zl 79 3 76 78 75 [4,5,7],zQ 80 2 79 75 [4,8],zX 81 1 80 75 [4,9],zO 82 81 75 [4,10],zW 83 0 6 82 [11],zU 84 1 83 82 [11,12],zW 85 0 3 82 [11],zU 86 1 85 82 [11,14],z1E 87 84 86 82 [11,13,15],zg 88 87 82 [11,16],zO 89 5 88 [17],z0r 90 89 0 88 [17,18],zO 91 90 88 [17,19],zx 92 3 6 91 [20],zW 93 2 3 91 [20],zU 94 1 93 91 [20,22],zg 95 5 91 [20],z0N 96 95 1 91 [20,24],zj 97 3 94 96 91 [20,23,25],zx 98 3 97 91 [20,26],z0S 99 79 92 98 91 [20,21,27],zh 100 91 99 88 [17,20,28],z0o 101 88 100 82 [11,17,29],zh 102 82 101 75 [4,11,30],zZ 103 75 102 [4,31]] ⟨r,B++List.replicate na none⟩):=qaM X T na live qFC (by kernel_rfl) r B
theorem qDd(X:XEnv)(T:List Nat)(na:Nat)(live:List Nat)(r:List (Nat×AV))(B:qao):qay X T (yT na live qFz) ⟨r,B⟩=qdT live (qcl (qac X) X.lin T true B.length [z6 18 0 3,zD 19 1 18 [0],z5 20 0,z1U 21 20 [2],z07 22 21 1 [3],⟨some 23,.call true (.c (.fn 31 [])) [.t 19,.c (.d (.int .i64 0)),.t 22],none,[1,4]⟩,z08 24 23 [5],za 25 24 [5,6],zQ 26 1 3 25 [7],zX 27 1 26 25 [7,8],z0q 28 27 0 25 [7,9],zZ 29 25 28 [7,10],za 30 29 [7,11],zO 31 0 30 [12],zQ 32 0 3 30 [12],zX 33 1 32 30 [12,14],zl 34 3 31 33 30 [12,13,15],zQ 35 2 34 30 [12,16],zX 36 1 35 30 [12,17],z0l 37 36 30 [12,18],zO 38 37 30 [12,19],zW 39 2 3 38 [20],zU 40 1 39 38 [20,21],z0b 41 40 38 [20,22],zg 42 0 38 [20],zW 43 0 3 38 [20],zU 44 1 43 38 [20,25],zj 45 3 42 44 38 [20,24,26],zW 46 1 45 38 [20,27],zU 47 1 46 38 [20,28],z1D 48 41 47 38 [20,23,29],zh 49 38 48 30 [12,20,30],zZ 50 30 49 [12,31],za 51 50 [20,32],zO 52 0 51 [33],zQ 53 0 3 51 [33],zX 54 1 53 51 [33,35],zl 55 3 52 54 51 [33,34,36],zQ 56 2 55 51 [33,37],zX 57 1 56 51 [33,38],zO 58 57 51 [33,39],zW 59 2 3 58 [40],zU 60 1 59 58 [40,41],z0b 61 60 58 [40,42],z0M 62 61 2 58 [40,43],zh 63 58 62 51 [33,40,44],zZ 64 51 63 [33,45]] ⟨r,B++List.replicate na none⟩):=qaM X T na live qFz (by kernel_rfl) r B
theorem qss(X:XEnv)(T:List Nat)(na:Nat)(live:List Nat)(r:List (Nat×AV))(B:qao):qay X T (yT na live qFx) ⟨r,B⟩=qdT live (qcl (qac X) X.lin T true B.length [z5 72 0,z6 73 0 3,zD 74 1 73 [1],zA 75 3 72 74 [0,2],zb 76 2 75 [3],zD 77 1 76 [4],za 78 77 [5],zW 79 2 3 78 [6],zU 80 1 79 78 [6,7],zg 81 5 78 [6],zj 82 3 80 81 78 [6,8,9],zW 83 0 82 78 [6,10],zU 84 1 83 78 [6,11],zW 85 0 3 78 [6],zU 86 1 85 78 [6,13],z1E 87 84 86 78 [6,12,14],zg 88 87 78 [6,15],zO 89 5 88 [16],z0r 90 89 0 88 [16,17],zO 91 90 88 [16,18],zW 92 2 3 91 [19],zU 93 1 92 91 [19,20],zg 94 5 91 [19],zj 95 3 93 94 91 [19,21,22],zx 96 3 95 91 [19,23],zW 97 2 3 91 [19],zU 98 1 97 91 [19,25],zg 99 5 91 [19],z0N 100 99 1 91 [19,27],zj 101 3 98 100 91 [19,26,28],zx 102 3 101 91 [19,29],z0S 103 84 96 102 91 [19,24,30],zh 104 91 103 88 [16,19,31],z0o 105 88 104 78 [6,16,32],z0T 106 78 105 [6,33],za 107 106 [31,34],zO 108 0 107 [35],zQ 109 2 3 107 [35],zX 110 1 109 107 [35,37],zO 111 5 107 [35],zl 112 3 110 111 107 [35,38,39],z0w 113 3 112 107 [35,40],z0y 114 83 108 113 107 [35,36,41],z0l 115 114 107 [35,42],zZ 116 107 115 [35,43]] ⟨r,B++List.replicate na none⟩):=qaM X T na live qFx (by kernel_rfl) r B
theorem qj2(X:XEnv)(T:List Nat)(na:Nat)(live:List Nat)(r:List (Nat×AV))(B:qao):qay X T (yT na live qAD) ⟨r,B⟩=qdT live (qcl (qac X) X.lin T true B.length [z6 47 2 2,zD 48 1 47 [0],z5 49 5,zA 50 3 48 49 [1,2],zH 51 3 50 [3],z6 52 2 3,zD 53 1 52 [5],z5 54 5,zA 55 3 53 54 [6,7],zH 56 3 55 [8],zN 57 3 51 56 [4,9],z08 58 57 [10]] ⟨r,B++List.replicate na none⟩):=qaM X T na live qAD (by kernel_rfl) r B
theorem qj1(X:XEnv)(T:List Nat)(na:Nat)(live:List Nat)(r:List (Nat×AV))(B:qao):qay X T (yT na live qAC) ⟨r,B⟩=qdT live (qcl (qac X) X.lin T true B.length [z6 59 2 2,zD 60 1 59 [0],z5 61 5,zA 62 3 60 61 [1,2],zH 63 3 62 [3],z6 64 2 3,zD 65 1 64 [5],z5 66 5,zA 67 3 65 66 [6,7],zH 68 3 67 [8],zN 69 84 63 68 [4,9],za 4 69 [0,1,2,3,4,5,6,7,8,9,10]] ⟨r,B++List.replicate na none⟩):=qaM X T na live qAC (by kernel_rfl) r B
theorem qwm(X:XEnv)(T:List Nat)(na:Nat)(live:List Nat)(r:List (Nat×AV))(B:qao):qay X T (yT na live qBO) ⟨r,B⟩=qdT live (qcl (qac X) X.lin T true B.length [z6 17 2 3,zD 18 1 17 [0],z6 19 2 1,zD 20 1 19 [2],z5 21 4,zA 22 3 20 21 [3,4],zH 23 3 22 [5],ze 24 146 23 [6],zc 25 3 0 0 1 0 24 [7],z09 26 3 40 18 25 [1,7,8],zb 27 2 3 [0,1,2,3,4,5,6,7,8,9],zi 1 27 26 [0,1,2,3,4,5,6,7,8,9,10]] ⟨r,B++List.replicate na none⟩):=qaM X T na live qBO (by kernel_rfl) r B
theorem qmn(X:XEnv)(T:List Nat)(na:Nat)(live:List Nat)(r:List (Nat×AV))(B:qao):qay X T (.regionF true na live qBJ) ⟨r,B⟩=qdT live (xFs (qac X) X.lin T true B.length [
 .one (z6 35 2 5),.one (zD 36 1 35 [0]),.one (z6 37 2 7),
 .el 38 37 39 (.t 8) 40 3 41 [2] [] [3,4] [5],.one ⟨some 42,.call false (.c (.fn 154 [])) [.t 36,.t 41],none,[1,6]⟩,.one (zb 43 2 5 [0,1,2,3,4,5,6,7]),.one (zi 1 43 42 [0,1,2,3,4,5,6,7,8])] ⟨r,B++List.replicate na none⟩):=qIb X T na live qBJ (by kernel_rfl) r B
theorem qDi(X:XEnv)(T:List Nat)(na:Nat)(live:List Nat)(r:List (Nat×AV))(B:qao):qay X T (yT na live qBI) ⟨r,B⟩=qdT live (qcl (qac X) X.lin T true B.length [z5 7 5,z5 8 0,z1U 9 8 [1],⟨some 10,.bin .lss (.t 7) (.t 9),none,[0,2]⟩,za 11 10 [3],zx 12 3 3 11 [4],zg 13 0 11 [4],zg 14 5 11 [4],zj 15 3 13 14 11 [4,6,7],zx 16 3 15 11 [4,8],z0S 17 84 12 16 11 [4,5,9],⟨some 18,.not (.t 17),some (11,true),[4,10]⟩,z0T 19 11 18 [4,11]] ⟨r,B++List.replicate na none⟩):=qaM X T na live qBI (by kernel_rfl) r B
theorem qHX(X:XEnv)(T:List Nat)(na:Nat)(live:List Nat)(r:List (Nat×AV))(B:qao):qay X T (yT na live qvx) ⟨r,B⟩=qdT live (qcl (qac X) X.lin T true B.length [z5 18 9,z5 19 1,z1T 20 18 19 [0,1],za 21 20 [2],zg 22 3 21 [3],zg 23 0 21 [3],zg 24 9 21 [3],zj 25 3 23 24 21 [3,5,6],zx 26 3 25 21 [3,7],zg 27 0 21 [3],zg 28 9 21 [3],z0N 29 28 1 21 [3,10],zj 30 3 27 29 21 [3,9,11],zx 31 3 30 21 [3,12],⟨some 32,.call false (.t 22) [.t 26,.t 31],some (21,true),[3,4,8,13]⟩,z0M 33 32 0 21 [3,14],z0T 34 21 33 [3,15]] ⟨r,B++List.replicate na none⟩):=qaM X T na live qvx (by kernel_rfl) r B
theorem qHW(X:XEnv)(T:List Nat)(na:Nat)(live:List Nat)(r:List (Nat×AV))(B:qao):qay X T (yT na live qvw) ⟨r,B⟩=qdT live (qcl (qac X) X.lin T true B.length [z5 37 0,z5 38 9,z5 39 0,z5 40 9,z07 41 40 1 [3],z5 42 0,z5 43 9,z07 44 43 1 [6],zA 45 3 42 44 [5,7],zH 46 3 45 [8],z5 47 0,z5 48 9,zA 49 3 47 48 [10,11],zH 50 3 49 [12],zA 51 3 37 38 [0,1,5,6,7,8,9,13],zi 3 51 46 [0,1,5,6,7,8,9,13,14],zA 52 3 39 41 [0,1,2,3,4,5,6,7,8,9,10,11,12,13,14,15],zi 3 52 50 [0,1,2,3,4,5,6,7,8,9,10,11,12,13,14,15,16]] ⟨r,B++List.replicate na none⟩):=qaM X T na live qvw (by kernel_rfl) r B
theorem qPc(X:XEnv)(T:List Nat)(na:Nat)(live:List Nat)(r:List (Nat×AV))(B:qao):qay X T (yT na live qvu) ⟨r,B⟩=qdT live (qcl (qac X) X.lin T true B.length [z5 40 4,z5 41 0,z5 42 12,zA 43 3 41 42 [1,2],zH 44 3 43 [3],z5 45 0,z5 46 1,zA 47 3 45 46 [5,6],zH 48 3 47 [7],z0t 49 40 44 48 [0,4,8],z0W 50 49 0 [9]] ⟨r,B++List.replicate na none⟩):=qaM X T na live qvu (by kernel_rfl) r B
theorem qKB(X:XEnv)(T:List Nat)(na:Nat)(live:List Nat)(r:List (Nat×AV))(B:qao):qay X T (yT na live qpK) ⟨r,B⟩=qdT live (qcl (qac X) X.lin T true B.length [z5 61 0,z5 62 13,z5 63 0,z5 64 13,z0G 65 64 1 [3],z5 66 0,z5 67 13,z0G 68 67 1 [6],zA 69 3 66 68 [5,7],zH 70 3 69 [8],z5 71 0,z5 72 13,zA 73 3 71 72 [10,11],zH 74 3 73 [12],zA 75 3 61 62 [0,1,5,6,7,8,9,13],zi 3 75 70 [0,1,5,6,7,8,9,13,14],zA 76 3 63 65 [0,1,2,3,4,5,6,7,8,9,10,11,12,13,14,15],zi 3 76 74 [0,1,2,3,4,5,6,7,8,9,10,11,12,13,14,15,16]] ⟨r,B++List.replicate na none⟩):=qaM X T na live qpK (by kernel_rfl) r B
theorem qDh(X:XEnv)(T:List Nat)(na:Nat)(live:List Nat)(r:List (Nat×AV))(B:qao):qay X T (yT na live qpH) ⟨r,B⟩=qdT live (qcl (qac X) X.lin T true B.length [z5 92 4,z5 93 0,z5 94 2,zA 95 3 93 94 [1,2],zH 96 3 95 [3],z5 97 0,z5 98 16,zA 99 3 97 98 [5,6],zH 100 3 99 [7],z0t 101 92 96 100 [0,4,8],z0W 102 101 0 [9],z08 103 102 [10]] ⟨r,B++List.replicate na none⟩):=qaM X T na live qpH (by kernel_rfl) r B
theorem qKA(X:XEnv)(T:List Nat)(na:Nat)(live:List Nat)(r:List (Nat×AV))(B:qao):qay X T (yT na live qpG) ⟨r,B⟩=qdT live (qcl (qac X) X.lin T true B.length [z5 113 0,z5 114 17,z5 115 0,z5 116 17,z07 117 116 1 [3],z5 118 0,z5 119 17,z07 120 119 1 [6],zA 121 3 118 120 [5,7],zH 122 3 121 [8],z5 123 0,z5 124 17,zA 125 3 123 124 [10,11],zH 126 3 125 [12],zA 127 3 113 114 [0,1,5,6,7,8,9,13],zi 3 127 122 [0,1,5,6,7,8,9,13,14],zA 128 3 115 117 [0,1,2,3,4,5,6,7,8,9,10,11,12,13,14,15],zi 3 128 126 [0,1,2,3,4,5,6,7,8,9,10,11,12,13,14,15,16]] ⟨r,B++List.replicate na none⟩):=qaM X T na live qpG (by kernel_rfl) r B
theorem qDg(X:XEnv)(T:List Nat)(na:Nat)(live:List Nat)(r:List (Nat×AV))(B:qao):qay X T (yT na live qpE) ⟨r,B⟩=qdT live (qcl (qac X) X.lin T true B.length [z5 158 4,z5 159 0,z5 160 22,z5 161 23,⟨some 162,.bin .sub (.t 160) (.t 161),none,[2,3]⟩,zA 163 3 159 162 [1,4],zH 164 3 163 [5],z5 165 0,z5 166 23,zA 167 3 165 166 [7,8],zH 168 3 167 [9],z0t 169 158 164 168 [0,6,10],z0W 170 169 0 [11],z08 171 170 [12]] ⟨r,B++List.replicate na none⟩):=qaM X T na live qpE (by kernel_rfl) r B
theorem qPb(X:XEnv)(T:List Nat)(na:Nat)(live:List Nat)(r:List (Nat×AV))(B:qao):qay X T (yT na live qvp) ⟨r,B⟩=qdT live (qcl (qac X) X.lin T true B.length [z5 16 0,z5 17 1,z5 18 10,z0f 19 17 18 [1,2],z5 20 0,z5 21 2,z5 22 10,z0f 23 21 22 [5,6],z5 24 0,z5 25 2,z5 26 10,z0f 27 25 26 [9,10],zA 28 3 24 27 [8,11],zH 29 3 28 [12],z5 30 0,z5 31 1,z5 32 10,z0f 33 31 32 [15,16],zA 34 3 30 33 [14,17],zH 35 3 34 [18],zA 36 3 16 19 [0,1,2,3,8,9,10,11,12,13,19],zi 3 36 29 [0,1,2,3,8,9,10,11,12,13,19,20],zA 37 3 20 23 [0,1,2,3,4,5,6,7,8,9,10,11,12,13,14,15,16,17,18,19,20,21],zi 3 37 35 [0,1,2,3,4,5,6,7,8,9,10,11,12,13,14,15,16,17,18,19,20,21,22]] ⟨r,B++List.replicate na none⟩):=qaM X T na live qvp (by kernel_rfl) r B
theorem qwl(X:XEnv)(T:List Nat)(na:Nat)(live:List Nat)(r:List (Nat×AV))(B:qao):qay X T (yT na live qA1) ⟨r,B⟩=qdT live (qcl (qac X) X.lin T true B.length [z5 12 3,z5 13 0,z5 14 4,zA 15 4 13 14 [1,2],zb 16 0 15 [3],zD 17 1 16 [4],z5 18 0,z5 19 4,zA 20 4 18 19 [6,7],zb 21 1 20 [8],zH 22 3 21 [9],ze 23 146 22 [10],z0U 24 0 0 0 0 1 17 1 3 23 [5,11],z0P 25 4 0 0 0 1 0 24 [12],z09 26 4 48 12 25 [0,11,13],za 3 26 [0,1,2,3,4,5,6,7,8,9,10,11,12,13,14]] ⟨r,B++List.replicate na none⟩):=qaM X T na live qA1 (by kernel_rfl) r B
theorem qst(X:XEnv)(T:List Nat)(na:Nat)(live:List Nat)(r:List (Nat×AV))(B:qao):qay X T (yT na live qA0) ⟨r,B⟩=qdT live (qcl (qac X) X.lin T true B.length [z5 12 0,z5 13 5,zA 14 3 12 13 [0,1],zH 15 3 14 [2],z9 16 3 3,zN 17 3 15 16 [3,4]] ⟨r,B++List.replicate na none⟩):=qaM X T na live qA0 (by kernel_rfl) r B
theorem qmm(X:XEnv)(T:List Nat)(na:Nat)(live:List Nat)(r:List (Nat×AV))(B:qao):qay X T (yT na live qAZ) ⟨r,B⟩=qdT live (qcl (qac X) X.lin T true B.length [z5 17 0,z5 18 5,zA 19 4 17 18 [0,1],zb 20 0 19 [2],zD 21 1 20 [3],z5 22 1,z5 23 5,zA 24 4 22 23 [5,6],zb 25 0 24 [7],zD 26 1 25 [8],⟨some 27,.bin .neq (.t 21) (.t 26),none,[4,9]⟩,za 28 27 [10],zO 29 0 28 [11],zO 30 5 28 [11],zl 31 4 29 30 28 [11,12,13],zQ 32 1 31 28 [11,14],z0w 33 3 32 28 [11,15],zO 34 1 28 [11],zO 35 5 28 [11],zl 36 4 34 35 28 [11,17,18],zQ 37 1 36 28 [11,19],z0w 38 3 37 28 [11,20],z0y 39 3 33 38 28 [11,16,21],z0l 40 39 28 [11,22],zZ 41 28 40 [11,23]] ⟨r,B++List.replicate na none⟩):=qaM X T na live qAZ (by kernel_rfl) r B
theorem qwk(X:XEnv)(T:List Nat)(na:Nat)(live:List Nat)(r:List (Nat×AV))(B:qao):qay X T (yT na live qAY) ⟨r,B⟩=qdT live (qcl (qac X) X.lin T true B.length [z5 13 3,z6 14 0 5,zD 15 1 14 [1],z6 16 1 5,zH 17 3 16 [3],ze 18 150 17 [4],z0U 19 0 0 0 0 1 15 1 3 18 [2,5],z0P 20 4 0 0 0 1 0 19 [6],z09 21 4 48 13 20 [0,5,7],za 3 21 [0,1,2,3,4,5,6,7,8]] ⟨r,B++List.replicate na none⟩):=qaM X T na live qAY (by kernel_rfl) r B
theorem qff(X:XEnv)(T:List Nat)(na:Nat)(live:List Nat)(r:List (Nat×AV))(B:qao):qay X T (yT na live qAV) ⟨r,B⟩=qdT live (qcl (qac X) X.lin T true B.length [z5 42 0,z5 43 0,zt 44 43 [1],zb 45 1 44 [2],zD 46 1 45 [3],z5 47 2,ze 48 250 47 [5],z16 49 1 1 0 48 [6],z09 50 1 24 46 49 [4,6,7],zt 51 42 [0,1,2,3,4,5,6,7,8],zb 52 1 51 [0,1,2,3,4,5,6,7,8,9],zi 1 52 50 [0,1,2,3,4,5,6,7,8,10]] ⟨r,B++List.replicate na none⟩):=qaM X T na live qAV (by kernel_rfl) r B
theorem qfe(X:XEnv)(T:List Nat)(na:Nat)(live:List Nat)(r:List (Nat×AV))(B:qao):qay X T (yT na live qAU) ⟨r,B⟩=qdT live (qcl (qac X) X.lin T true B.length [z6 66 1 6,zD 67 1 66 [0],zy 68 3 67 0 [1],zH 69 3 68 [2],z6 70 2 6,zD 71 1 70 [4],zy 72 3 71 0 [5],zH 73 3 72 [6],zJ 8 0 0 0,zJ 9 1 0 0,z0L 3 8 69 [0,1,2,3,8,9],z0L 3 9 73 [0,1,2,3,4,5,6,7,8,9,10]] ⟨r,B++List.replicate na none⟩):=qaM X T na live qAU (by kernel_rfl) r B
theorem qdI(X:XEnv)(T:List Nat)(na:Nat)(live:List Nat)(r:List (Nat×AV))(B:qao):qay X T (yT na live qtG) ⟨r,B⟩=qdT live (qcl (qac X) X.lin T true B.length [z5 90 2,z6 91 1 8,zD 92 1 91 [1],zN 93 145 90 92 [0,2],z9 94 3 9,zN 95 3 93 94 [3,4]] ⟨r,B++List.replicate na none⟩):=qaM X T na live qtG (by kernel_rfl) r B
theorem qdH(X:XEnv)(T:List Nat)(na:Nat)(live:List Nat)(r:List (Nat×AV))(B:qao):qay X T (yT na live qtF) ⟨r,B⟩=qdT live (qcl (qac X) X.lin T true B.length [z5 105 0,zt 106 105 [0],zb 107 0 106 [1],zD 108 1 107 [2],z6 109 0 8,zD 110 1 109 [4],zN 111 33 108 110 [3,5]] ⟨r,B++List.replicate na none⟩):=qaM X T na live qtF (by kernel_rfl) r B
theorem qdG(X:XEnv)(T:List Nat)(na:Nat)(live:List Nat)(r:List (Nat×AV))(B:qao):qay X T (yT na live qtE) ⟨r,B⟩=qdT live (qcl (qac X) X.lin T true B.length [z5 140 10,z6 141 2 8,zD 142 1 141 [1],z5 143 11,zA 144 3 142 143 [2,3],zH 145 3 144 [4],zc 146 3 0 0 1 0 145 [5],z6 147 2 9,zD 148 1 147 [7],z5 149 11,zA 150 3 148 149 [8,9],zH 151 3 150 [10],zc 152 3 0 0 1 0 151 [11],z0I 153 0 0 1 1 1 146 2 1 152 [6,12],z0V 154 3 0 1 0 153 [13],z09 155 3 56 140 154 [0,14],za 10 155 [0,1,2,3,4,5,6,7,8,9,10,11,12,13,14,15]] ⟨r,B++List.replicate na none⟩):=qaM X T na live qtE (by kernel_rfl) r B
theorem qdF(X:XEnv)(T:List Nat)(na:Nat)(live:List Nat)(r:List (Nat×AV))(B:qao):qay X T (yT na live qtD) ⟨r,B⟩=qdT live (qcl (qac X) X.lin T true B.length [z5 65 0,z6 66 0 5,zD 67 1 66 [1],z5 68 9,z5 69 12,z0Y 70 0 0 1 67 1 1 68 2 1 69 [2,3,4],z0V 71 3 0 1 0 70 [5],z5 72 2,z09 73 3 56 71 72 [6,7],z5 74 3,z6 75 1 8,zD 76 1 75 [10],z5 77 0,zt 78 77 [12],zb 79 0 78 [13],zD 80 1 79 [14],z6 81 0 5,zD 82 1 81 [16],z5 83 11,z0A 84 193 80 82 83 [8,15,17,18],z0A 85 313 74 76 84 [9,11,19],z12 86 310 65 73 85 [0,8,20]] ⟨r,B++List.replicate na none⟩):=qaM X T na live qtD (by kernel_rfl) r B
theorem qdE(X:XEnv)(T:List Nat)(na:Nat)(live:List Nat)(r:List (Nat×AV))(B:qao):qay X T (yT na live qtC) ⟨r,B⟩=qdT live (qcl (qac X) X.lin T true B.length [z9 129 3 8,zc 130 3 0 0 1 0 129 [0],z6 131 2 5,zD 132 1 131 [2],z5 133 17,zA 134 3 132 133 [3,4],zH 135 3 134 [5],zc 136 3 0 0 1 0 135 [6],z0I 137 0 0 1 1 1 130 2 1 136 [1,7],z0X 18 0 0,z0L 3 18 137 [0,1,2,3,4,5,6,7,8,9]] ⟨r,B++List.replicate na none⟩):=qaM X T na live qtC (by kernel_rfl) r B
theorem qdD(X:XEnv)(T:List Nat)(na:Nat)(live:List Nat)(r:List (Nat×AV))(B:qao):qay X T (yT na live qtB) ⟨r,B⟩=qdT live (qcl (qac X) X.lin T true B.length [z6 138 0 5,zD 139 1 138 [0],z5 140 9,z6 141 2 5,zD 142 1 141 [3],z5 143 17,zN 144 260 142 143 [4,5],z0Y 145 0 0 1 139 1 1 140 2 1 144 [1,2,6],z0X 19 0 0,z0L 3 19 145 [0,1,2,3,4,5,6,7,8]] ⟨r,B++List.replicate na none⟩):=qaM X T na live qtB (by kernel_rfl) r B
theorem qoX(X:XEnv)(T:List Nat)(na:Nat)(live:List Nat)(r:List (Nat×AV))(B:qao):qay X T (yT na live qAP) ⟨r,B⟩=qdT live (qcl (qac X) X.lin T true B.length [z5 17 0,zt 18 17 [0],zb 19 3 18 [1],zD 20 1 19 [2],z5 21 0,zt 22 21 [4],zb 23 4 22 [5],zD 24 1 23 [6],z1T 25 20 24 [3,7]] ⟨r,B++List.replicate na none⟩):=qaM X T na live qAP (by kernel_rfl) r B
theorem qoW(X:XEnv)(T:List Nat)(na:Nat)(live:List Nat)(r:List (Nat×AV))(B:qao):qay X T (yT na live qAO) ⟨r,B⟩=qdT live (qcl (qac X) X.lin T true B.length [z5 39 0,z5 40 0,zt 41 40 [1],zb 42 1 41 [2],zD 43 1 42 [3],z7 44 1 5,ze 45 266 44 [5],z16 46 1 1 0 45 [6],z09 47 1 24 43 46 [4,6,7],zt 48 39 [0,1,2,3,4,5,6,7,8],zb 49 1 48 [0,1,2,3,4,5,6,7,8,9],zi 1 49 47 [0,1,2,3,4,5,6,7,8,10]] ⟨r,B++List.replicate na none⟩):=qaM X T na live qAO (by kernel_rfl) r B
theorem qoV(X:XEnv)(T:List Nat)(na:Nat)(live:List Nat)(r:List (Nat×AV))(B:qao):qay X T (yT na live qAN) ⟨r,B⟩=qdT live (qcl (qac X) X.lin T true B.length [z5 50 1,zy 51 4 50 0 [0],zH 52 4 51 [1],z5 53 1,z0g 54 4 53 1 [3],z1P 6 0 0,z0L 4 6 52 [0,1,2,5],za 7 54 [0,1,2,3,4,5,6]] ⟨r,B++List.replicate na none⟩):=qaM X T na live qAN (by kernel_rfl) r B
theorem qiY(X:XEnv)(T:List Nat)(na:Nat)(live:List Nat)(r:List (Nat×AV))(B:qao):qay X T (yT na live qtA) ⟨r,B⟩=qdT live (qcl (qac X) X.lin T true B.length [z5 62 0,z6 63 2 6,zD 64 1 63 [1],zy 65 3 64 0 [2],zH 66 3 65 [3],z6 67 3 6,zD 68 1 67 [5],zy 69 3 68 0 [6],zH 70 3 69 [7],z5 71 7,z7 72 1 5,⟨some 73,.call false (.c (.fn 322 [])) [.t 62,.t 66,.t 70,.t 71,.t 72],none,[0,4,8,9,10]⟩] ⟨r,B++List.replicate na none⟩):=qaM X T na live qtA (by kernel_rfl) r B
theorem qHV(X:XEnv)(T:List Nat)(na:Nat)(live:List Nat)(r:List (Nat×AV))(B:qao):qay X T (yT na live qAL) ⟨r,B⟩=qdT live (qcl (qac X) X.lin T true B.length [z5 3 0,zt 4 3 [0],zb 5 5 4 [1],zD 6 1 5 [2],za 7 6 [3],zO 8 0 7 [4],z1Q 9 8 7 [4,5],zQ 10 1 9 7 [4,6],zX 11 1 10 7 [4,7],⟨some 12,.len false (.t 11),some (7,false),[4,8]⟩,zO 13 0 7 [4],z1Q 14 13 7 [4,10],zQ 15 2 14 7 [4,11],zX 16 1 15 7 [4,12],⟨some 17,.bin .gtr (.t 12) (.t 16),some (7,false),[4,9,13]⟩,zZ 18 7 17 [4,14],za 2 18 [0,1,2,3,4,5,6,7,8,9,10,11,12,13,14,15]] ⟨r,B++List.replicate na none⟩):=qaM X T na live qAL (by kernel_rfl) r B
theorem qbU(X:XEnv)(T:List Nat)(na:Nat)(live:List Nat)(r:List (Nat×AV))(B:qao):qay X T (yT na live qtz) ⟨r,B⟩=qdT live (qcl (qac X) X.lin T true B.length [z5 50 9,z6 51 3 5,zD 52 1 51 [1],z5 53 10,zN 54 284 52 53 [2,3],z9 55 3 8,zc 56 3 0 0 1 0 55 [5],z9 57 3 11,zc 58 3 0 0 1 0 57 [7],z0R 59 0 2 1 56 3 1 58 [6,8],z03 60 4 0 1 0 59 [9],z5 61 3,⟨some 62,.call false (.t 50) [.t 54,.t 60,.t 61],none,[0,4,10,11]⟩] ⟨r,B++List.replicate na none⟩):=qaM X T na live qtz (by kernel_rfl) r B
theorem qbT(X:XEnv)(T:List Nat)(na:Nat)(live:List Nat)(r:List (Nat×AV))(B:qao):qay X T (yT na live qty) ⟨r,B⟩=qdT live (qcl (qac X) X.lin T true B.length [z5 130 9,z5 131 19,z5 132 3,z6 133 1 8,zD 134 1 133 [3],z7 135 1 4,zt 136 135 [5],zb 137 0 136 [6],zD 138 1 137 [7],z6 139 1 5,zD 140 1 139 [9],z5 141 18,z0A 142 192 138 140 141 [8,10,11],z0A 143 323 132 134 142 [2,4,12],⟨some 144,.call false (.t 130) [.t 131,.c (.d (.sl .nil [])),.t 143],none,[0,1,13]⟩] ⟨r,B++List.replicate na none⟩):=qaM X T na live qty (by kernel_rfl) r B
theorem qha(X:XEnv)(T:List Nat)(na:Nat)(live:List Nat)(r:List (Nat×AV))(B:qao):qay X T (yT na live qAK) ⟨r,B⟩=qdT live (qcl (qac X) X.lin T true B.length [z5 47 0,zt 48 47 [0],zb 49 0 48 [1],zD 50 1 49 [2],z6 51 0 6,zD 52 1 51 [4],zN 53 34 50 52 [3,5]] ⟨r,B++List.replicate na none⟩):=qaM X T na live qAK (by kernel_rfl) r B
theorem qfn(X:XEnv)(T:List Nat)(na:Nat)(live:List Nat)(r:List (Nat×AV))(B:qao):qay X T (yT na live qtx) ⟨r,B⟩=qdT live (qcl (qac X) X.lin T true B.length [z5 81 12,z6 82 2 6,zD 83 1 82 [1],z5 84 13,z5 85 13,z0G 86 85 1 [4],z0x 87 3 83 84 86 [2,3,5],z6 88 2 7,zD 89 1 88 [7],z5 90 13,z5 91 13,z0G 92 91 1 [10],z0x 93 3 89 90 92 [8,9,11],z0R 94 0 2 1 87 3 1 93 [6,12],z03 95 4 0 1 0 94 [13],z09 96 4 64 81 95 [0,14],za 12 96 [0,1,2,3,4,5,6,7,8,9,10,11,12,13,14,15]] ⟨r,B++List.replicate na none⟩):=qaM X T na live qtx (by kernel_rfl) r B
theorem qPa(X:XEnv)(T:List Nat)(na:Nat)(live:List Nat)(r:List (Nat×AV))(B:qao):qay X T (yT na live qAJ) ⟨r,B⟩=qdT live (qcl (qac X) X.lin T true B.length [z7 9 1 3,z5 10 1,z6 11 1 4,zD 12 1 11 [2],z6 13 2 4,zD 14 1 13 [4],z0g 15 3 14 1 [5],z5 16 0,⟨some 17,.build [.bool false,.int .i64 0,.sl .nil [],.sl .nil []] [(0,1,.c (.d (.bool true))),(1,1,.t 12),(2,1,.t 15),(3,1,.t 16)],none,[3,6,7]⟩,z03 18 4 0 1 0 17 [8],z7 19 1 5,⟨some 20,.buildSlice 1 (.sl .nil []) 3 [(0,.t 10),(1,.t 18),(2,.t 19)],none,[1,9,10]⟩,ze 21 328 20 [11],z5 22 2,z12 23 318 9 21 22 [0,12,13]] ⟨r,B++List.replicate na none⟩):=qaM X T na live qAJ (by kernel_rfl) r B
theorem qqf(X:XEnv)(T:List Nat)(na:Nat)(live:List Nat)(r:List (Nat×AV))(B:qao):qay X T (yT na live qtw) ⟨r,B⟩=qdT live (qcl (qac X) X.lin T true B.length [z5 28 0,ze 29 12 28 [0],z9 30 3 4,ze 31 2 30 [1,2],z9 32 3 5,ze 33 2 32 [3,4],z0A 34 372 29 31 33 [1,3,5],za 8 34 [0,1,2,3,4,5,6]] ⟨r,B++List.replicate na none⟩):=qaM X T na live qtw (by kernel_rfl) r B
theorem qqe(X:XEnv)(T:List Nat)(na:Nat)(live:List Nat)(r:List (Nat×AV))(B:qao):qay X T (yT na live qtv) ⟨r,B⟩=qdT live (qcl (qac X) X.lin T true B.length [z9 53 3 10,z9 54 3 4,ze 55 2 54 [1],zN 56 5 53 55 [0,2],z08 57 56 [3]] ⟨r,B++List.replicate na none⟩):=qaM X T na live qtv (by kernel_rfl) r B
theorem qqd(X:XEnv)(T:List Nat)(na:Nat)(live:List Nat)(r:List (Nat×AV))(B:qao):qay X T (yT na live qtu) ⟨r,B⟩=qdT live (qcl (qac X) X.lin T true B.length [z9 58 3 11,z9 59 3 5,ze 60 2 59 [1],zN 61 5 58 60 [0,2],z08 62 61 [3]] ⟨r,B++List.replicate na none⟩):=qaM X T na live qtu (by kernel_rfl) r B
theorem qCa:∀{l:List (Nat×VFn)} {k:Nat} {v:VFn},look l k=some v->(k,v)∈l
 | [],_,_,h=>by simp[look]at h
 |(a,u)::r,k,v,h=>by
  simp only[look]at h;split at h
  ·rename_i hk
   simp at h;subst h;subst hk;simp
  ·exact List.mem_cons_of_mem _ (qCa h)
theorem qJG:qKE.all (fun q=>q.2.linOK (qrZ qJE q.1))=true:=by kernel_rfl
theorem qFa:qIS.all (fun q=>q.2.pre.linOK (qrZ qJE q.1)&&q.2.rest.linOK (qrZ qJE q.1)&&qar (qrZ qJE q.1) (q.2.results.flatMap VRes.vx)&&(qrZ qJE q.1).all (fun j=>decide (q.2.np<=j)))=true:=by kernel_rfl
theorem qvX:∀q,q∈qFQ->qsY q.2 (qmL q.2)/\qrZ qJE q.1=[]:=yc_.2 ⟨⟨qKQ,by kernel_rfl⟩,yc_.2 ⟨⟨qte,by kernel_rfl⟩,yc_.2 ⟨⟨qJr,by kernel_rfl⟩,List.forall_mem_nil _⟩⟩⟩
theorem xok:XOK XV:=⟨fun f vf h=>List.all_eq_true.1 qJG (f,vf) (qCa h),fun f g h=>⟨qmL g,by show(ql2 qFQ f).map qmL=_;rw[show ql2 qFQ f=some g from h];rfl,(qvX (f,g) (qhW h)).1,(qvX (f,g) (qhW h)).2⟩,fun f h=>by show(ql2 qFQ f).map qmL=_;rw[show ql2 qFQ f=none from h];rfl,fun f sf h=>by
 have:=List.all_eq_true.1 qFa (f,sf) (ql1 h);simp only[Bool.and_eq_true]at this;exact⟨this.1.1.1,this.1.1.2,this.1.2,this.2⟩⟩
end Go.Proofs.YtbcbkiaineacpaaGreat.VS
