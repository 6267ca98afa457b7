/- Which registers of each function may own rows; the functions for the evaluator without names. -/
import Derived.Test.YtfiakfiocdfpbaaNat2
import Derived.Test.YtfiakfiocdfpbaaCode
import Derived.KernelRfl
set_option linter.unusedVariables false
namespace Go.Proofs.Ytfiakfiocdfpbaa.VS
def qJw:List (Nat×List Nat):=[(25,[15]),(68,[13]),(78,[70]),(91,[5,8,14,15,26,27]),(92,[6,30,37,38,42,43]),(132,[20,22,25,29,30,32,36]),(134,[2,3,6,10,11,12,14]),(135,[11]),(136,[2,3,7,12,16,17,20]),(137,[8,10,15,16,18,28,32,35,36,37,38,43,50,51,52,53,57,60,61,62,63,64]),(138,[2,5,9,10]),(139,[2,3,4,7]),(140,[2,3,4,7]),(141,[11]),(142,[8,9,13,15,16,35,38,39,40,41,49,62,63,64,65,68,71,72,73,74,75]),(144,[7,10,11,16,18]),(145,[24,26]),(146,[9,18,24,25,26,28]),(147,[4]),(148,[13,19,21]),(149,[4]),(150,[5,7]),(151,[2,3,6,12,13,15,16,17,19]),(152,[19,24,33,40,41,42,44]),(153,[13,27,36,41,42,51,52,53,54,63,64,65,67]),(154,[0,1,4,6,22,25,26,27,28,29,30,31,34,35]),(155,[0,8]),(156,[28,30]),(157,[2,3,5,10,15,16,17,18,26,29]),(158,[2,3,6,14,21,22,25,26,28,29,30,31,32]),(161,[7,60,62,64,65,72,73]),(163,[9]),(164,[6,7]),(166,[8,24,28,36,37,40,45,46,47,50]),(168,[5,19,20,27,28,31,32,33,35,37]),(169,[5,8,15,18,30,32,33,34,35,36,37,45,47]),(172,[46,50]),(173,[70,74,122,126]),(175,[29,35])]
def qqp:List (Nat×List Nat)->Nat->List Nat
 | [],_=>[]
 |(k,v)::r,n=>if n=k then v else qqp r n
noncomputable def XV:XEnv:=⟨E,qqp qJw,qlu qE2⟩
@[simp] theorem qT2:XV.lin 3=[]:=by kernel_rfl
theorem qH7:XV.env.code 3=some v3:=by kernel_rfl
@[simp] theorem qT1:XV.lin 4=[]:=by kernel_rfl
theorem qH6:XV.env.code 4=some v4:=by kernel_rfl
@[simp] theorem qT0:XV.lin 6=[]:=by kernel_rfl
theorem qx2:XV.env.code 6=some v6:=by kernel_rfl
@[simp] theorem qTy:XV.lin 13=[]:=by kernel_rfl
theorem qDW:XV.env.code 13=some v13:=by kernel_rfl
@[simp] theorem qTx:XV.lin 14=[]:=by kernel_rfl
theorem qDV:XV.env.code 14=some v14:=by kernel_rfl
@[simp] theorem qTw:XV.lin 18=[]:=by kernel_rfl
theorem qDU:XV.env.code 18=some v18:=by kernel_rfl
@[simp] theorem qNU:XV.lin 19=[]:=by kernel_rfl
theorem qDT:XV.env.code 19=some v19:=by kernel_rfl
@[simp] theorem qTv:XV.lin 22=[]:=by kernel_rfl
theorem qDS:XV.env.code 22=some v22:=by kernel_rfl
@[simp] theorem qTu:XV.lin 23=[]:=by kernel_rfl
theorem qDR:XV.env.code 23=some v23:=by kernel_rfl
@[simp] theorem qTt:XV.lin 24=[]:=by kernel_rfl
theorem qDQ:XV.env.code 24=some v24:=by kernel_rfl
@[simp] theorem qNT:XV.lin 25=[15]:=by kernel_rfl
theorem qDP:XV.env.code 25=some v25:=by kernel_rfl
@[simp] theorem qTs:XV.lin 29=[]:=by kernel_rfl
theorem qDO:XV.env.code 29=some v29:=by kernel_rfl
@[simp] theorem qTr:XV.lin 30=[]:=by kernel_rfl
theorem qDN:XV.env.code 30=some v30:=by kernel_rfl
@[simp] theorem qTq:XV.lin 31=[]:=by kernel_rfl
theorem qDM:XV.env.code 31=some v31:=by kernel_rfl
@[simp] theorem qTp:XV.lin 33=[]:=by kernel_rfl
theorem qDL:XV.env.code 33=some v33:=by kernel_rfl
@[simp] theorem qTo:XV.lin 34=[]:=by kernel_rfl
theorem qDK:XV.env.code 34=some v34:=by kernel_rfl
@[simp] theorem qTn:XV.lin 38=[]:=by kernel_rfl
theorem qnx:XV.env.code 38=some v38:=by kernel_rfl
@[simp] theorem qTm:XV.lin 39=[]:=by kernel_rfl
theorem qDJ:XV.env.code 39=some v39:=by kernel_rfl
@[simp] theorem qTl:XV.lin 59=[]:=by kernel_rfl
theorem qDI:XV.env.code 59=some v59:=by kernel_rfl
@[simp] theorem qTk:XV.lin 60=[]:=by kernel_rfl
theorem qDH:XV.env.code 60=some v60:=by kernel_rfl
@[simp] theorem qTj:XV.lin 61=[]:=by kernel_rfl
theorem qDG:XV.env.code 61=some v61:=by kernel_rfl
@[simp] theorem qTi:XV.lin 62=[]:=by kernel_rfl
theorem qDF:XV.env.code 62=some v62:=by kernel_rfl
@[simp] theorem qTh:XV.lin 67=[]:=by kernel_rfl
theorem qDE:XV.env.code 67=some v67:=by kernel_rfl
@[simp] theorem qNS:XV.lin 68=[13]:=by kernel_rfl
theorem qDD:XV.env.code 68=some v68:=by kernel_rfl
@[simp] theorem qTg:XV.lin 70=[]:=by kernel_rfl
theorem qDC:XV.env.code 70=some v70:=by kernel_rfl
@[simp] theorem qTf:XV.lin 71=[]:=by kernel_rfl
theorem qDB:XV.env.code 71=some v71:=by kernel_rfl
@[simp] theorem qTe:XV.lin 72=[]:=by kernel_rfl
theorem qDA:XV.env.code 72=some v72:=by kernel_rfl
@[simp] theorem qTd:XV.lin 73=[]:=by kernel_rfl
theorem qDz:XV.env.code 73=some v73:=by kernel_rfl
@[simp] theorem qTc:XV.lin 74=[]:=by kernel_rfl
theorem qDy:XV.env.code 74=some v74:=by kernel_rfl
@[simp] theorem qTb:XV.lin 75=[]:=by kernel_rfl
theorem qDx:XV.env.code 75=some v75:=by kernel_rfl
@[simp] theorem qNR:XV.lin 76=[]:=by kernel_rfl
theorem qDw:XV.env.code 76=some v76:=by kernel_rfl
@[simp] theorem qNQ:XV.lin 77=[]:=by kernel_rfl
theorem qDv:XV.env.code 77=some v77:=by kernel_rfl
@[simp] theorem qA1:XV.lin 78=[70]:=by kernel_rfl
theorem qDu:XV.env.code 78=some v78:=by kernel_rfl
@[simp] theorem qTa:XV.lin 79=[]:=by kernel_rfl
theorem qDt:XV.env.code 79=some v79:=by kernel_rfl
@[simp] theorem qS9:XV.lin 80=[]:=by kernel_rfl
theorem qDs:XV.env.code 80=some v80:=by kernel_rfl
@[simp] theorem qS8:XV.lin 81=[]:=by kernel_rfl
theorem qDr:XV.env.code 81=some v81:=by kernel_rfl
@[simp] theorem qNP:XV.lin 82=[]:=by kernel_rfl
theorem qDq:XV.env.code 82=some v82:=by kernel_rfl
@[simp] theorem qA0:XV.lin 83=[]:=by kernel_rfl
theorem qDp:XV.env.code 83=some v83:=by kernel_rfl
@[simp] theorem qS7:XV.lin 84=[]:=by kernel_rfl
theorem qDo:XV.env.code 84=some v84:=by kernel_rfl
@[simp] theorem qS6:XV.lin 85=[]:=by kernel_rfl
theorem qDn:XV.env.code 85=some v85:=by kernel_rfl
@[simp] theorem qS5:XV.lin 90=[]:=by kernel_rfl
theorem qDm:XV.env.code 90=some v90:=by kernel_rfl
@[simp] theorem qNO:XV.lin 91=[5,8,14,15,26,27]:=by kernel_rfl
theorem qDl:XV.env.code 91=some v91:=by kernel_rfl
@[simp] theorem qNN:XV.lin 92=[6,30,37,38,42,43]:=by kernel_rfl
theorem qDk:XV.env.code 92=some v92:=by kernel_rfl
@[simp] theorem qNM:XV.lin 98=[]:=by kernel_rfl
theorem qDj:XV.env.code 98=some v98:=by kernel_rfl
@[simp] theorem qRK:XV.lin 132=[20,22,25,29,30,32,36]:=by kernel_rfl
theorem qyF:XV.env.code 132=some qF8:=by kernel_rfl
@[simp] theorem qRJ:XV.lin 133=[]:=by kernel_rfl
theorem qyE:XV.env.code 133=some qK4:=by kernel_rfl
@[simp] theorem qRI:XV.lin 134=[2,3,6,10,11,12,14]:=by kernel_rfl
theorem qyD:XV.env.code 134=some qK3:=by kernel_rfl
@[simp] theorem qRH:XV.lin 135=[11]:=by kernel_rfl
theorem qyC:XV.env.code 135=some qK2:=by kernel_rfl
@[simp] theorem qRG:XV.lin 136=[2,3,7,12,16,17,20]:=by kernel_rfl
theorem qyB:XV.env.code 136=some qK1:=by kernel_rfl
@[simp] theorem qJL:XV.lin 137=[8,10,15,16,18,28,32,35,36,37,38,43,50,51,52,53,57,60,61,62,63,64]:=by kernel_rfl
theorem qyA:XV.env.code 137=some qD4:=by kernel_rfl
@[simp] theorem qRF:XV.lin 138=[2,5,9,10]:=by kernel_rfl
theorem qyz:XV.env.code 138=some qK0:=by kernel_rfl
@[simp] theorem qRE:XV.lin 139=[2,3,4,7]:=by kernel_rfl
theorem qyy:XV.env.code 139=some qKZ:=by kernel_rfl
@[simp] theorem qRD:XV.lin 140=[2,3,4,7]:=by kernel_rfl
theorem qyx:XV.env.code 140=some qKY:=by kernel_rfl
@[simp] theorem qRC:XV.lin 141=[11]:=by kernel_rfl
theorem qyw:XV.env.code 141=some qKX:=by kernel_rfl
@[simp] theorem qJK:XV.lin 142=[8,9,13,15,16,35,38,39,40,41,49,62,63,64,65,68,71,72,73,74,75]:=by kernel_rfl
theorem qyv:XV.env.code 142=some qD3:=by kernel_rfl
@[simp] theorem qJJ:XV.lin 143=[]:=by kernel_rfl
theorem qyu:XV.env.code 143=some qIt:=by kernel_rfl
@[simp] theorem qRB:XV.lin 144=[7,10,11,16,18]:=by kernel_rfl
theorem qyt:XV.env.code 144=some qIs:=by kernel_rfl
@[simp] theorem qJI:XV.lin 145=[24,26]:=by kernel_rfl
theorem qys:XV.env.code 145=some qKW:=by kernel_rfl
@[simp] theorem qJH:XV.lin 146=[9,18,24,25,26,28]:=by kernel_rfl
theorem qyr:XV.env.code 146=some qIr:=by kernel_rfl
@[simp] theorem qRA:XV.lin 147=[4]:=by kernel_rfl
theorem qyq:XV.env.code 147=some qKV:=by kernel_rfl
@[simp] theorem qJG:XV.lin 148=[13,19,21]:=by kernel_rfl
theorem qyp:XV.env.code 148=some qKU:=by kernel_rfl
@[simp] theorem qRz:XV.lin 149=[4]:=by kernel_rfl
theorem qyo:XV.env.code 149=some qKT:=by kernel_rfl
@[simp] theorem qRy:XV.lin 150=[5,7]:=by kernel_rfl
theorem qyn:XV.env.code 150=some qKS:=by kernel_rfl
@[simp] theorem qJF:XV.lin 151=[2,3,6,12,13,15,16,17,19]:=by kernel_rfl
theorem qym:XV.env.code 151=some qKR:=by kernel_rfl
@[simp] theorem qJE:XV.lin 152=[19,24,33,40,41,42,44]:=by kernel_rfl
theorem qyl:XV.env.code 152=some qC5:=by kernel_rfl
@[simp] theorem qA3:XV.lin 153=[13,27,36,41,42,51,52,53,54,63,64,65,67]:=by kernel_rfl
theorem qyk:XV.env.code 153=some qKQ:=by kernel_rfl
@[simp] theorem qJD:XV.lin 154=[0,1,4,6,22,25,26,27,28,29,30,31,34,35]:=by kernel_rfl
theorem qyj:XV.env.code 154=some qKP:=by kernel_rfl
@[simp] theorem qRx:XV.lin 155=[0,8]:=by kernel_rfl
theorem qyi:XV.env.code 155=some qKO:=by kernel_rfl
@[simp] theorem qJC:XV.lin 156=[28,30]:=by kernel_rfl
theorem qyh:XV.env.code 156=some qKN:=by kernel_rfl
@[simp] theorem qRw:XV.lin 157=[2,3,5,10,15,16,17,18,26,29]:=by kernel_rfl
theorem qyg:XV.env.code 157=some qyS:=by kernel_rfl
@[simp] theorem qJB:XV.lin 158=[2,3,6,14,21,22,25,26,28,29,30,31,32]:=by kernel_rfl
theorem qyf:XV.env.code 158=some qKM:=by kernel_rfl
@[simp] theorem qRv:XV.lin 159=[]:=by kernel_rfl
theorem qye:XV.env.code 159=some qKL:=by kernel_rfl
@[simp] theorem qRu:XV.lin 160=[]:=by kernel_rfl
theorem qyd:XV.env.code 160=some qKK:=by kernel_rfl
@[simp] theorem qA2:XV.lin 161=[7,60,62,64,65,72,73]:=by kernel_rfl
theorem qyc:XV.env.code 161=some qKJ:=by kernel_rfl
@[simp] theorem qRt:XV.lin 162=[]:=by kernel_rfl
theorem qyb:XV.env.code 162=some qKI:=by kernel_rfl
@[simp] theorem qRs:XV.lin 163=[9]:=by kernel_rfl
theorem qya:XV.env.code 163=some qKH:=by kernel_rfl
@[simp] theorem qRr:XV.lin 164=[6,7]:=by kernel_rfl
theorem qx9:XV.env.code 164=some v164:=by kernel_rfl
@[simp] theorem qRq:XV.lin 165=[]:=by kernel_rfl
theorem qx8:XV.env.code 165=some qIp:=by kernel_rfl
@[simp] theorem qlv:XV.lin 166=[8,24,28,36,37,40,45,46,47,50]:=by kernel_rfl
theorem qx7:XV.env.code 166=some qKG:=by kernel_rfl
@[simp] theorem qRp:XV.lin 167=[]:=by kernel_rfl
theorem qx6:XV.env.code 167=some qKF:=by kernel_rfl
@[simp] theorem qJA:XV.lin 168=[5,19,20,27,28,31,32,33,35,37]:=by kernel_rfl
theorem qx5:XV.env.code 168=some qC4:=by kernel_rfl
@[simp] theorem qRo:XV.lin 170=[]:=by kernel_rfl
theorem qo3:XV.env.code 170=some qF7:=by kernel_rfl
@[simp] theorem qRn:XV.lin 171=[]:=by kernel_rfl
theorem qo2:XV.env.code 171=some qF6:=by kernel_rfl
@[simp] theorem qRm:XV.lin 172=[46,50]:=by kernel_rfl
theorem qkf:XV.env.code 172=some qC3:=by kernel_rfl
@[simp] theorem qRl:XV.lin 173=[70,74,122,126]:=by kernel_rfl
theorem qke:XV.env.code 173=some qC2:=by kernel_rfl
@[simp] theorem qRk:XV.lin 174=[]:=by kernel_rfl
theorem qx4:XV.env.code 174=some qKE:=by kernel_rfl
@[simp] theorem qRj:XV.lin 175=[29,35]:=by kernel_rfl
theorem qx3:XV.env.code 175=some qKD:=by kernel_rfl
@[simp] theorem qJz:XV.lin 169=[5,8,15,18,30,32,33,34,35,36,37,45,47]:=by kernel_rfl
theorem qxV:XV.env.code 169=none:=by kernel_rfl
theorem qxO:XV.env.spec 169=some qpp:=by kernel_rfl
theorem qTE(X:XEnv)(T:List Nat)(na:Nat)(live:List Nat)(r:List (Nat×AV))(B:qan):qau X T (yT na live qQy) ⟨r,B⟩=qdD live (qct (qaf X) X.lin T true B.length [z1 34 2 2,zA 35 1 34 [0],z0 36 5,z2 37 3 35 36 [1,2],zG 38 3 37 [3],z1 39 2 3,zA 40 1 39 [5],z0 41 5,z2 42 3 40 41 [6,7],zG 43 3 42 [8],zN 44 3 38 43 [4,9],z01 45 44 [10]] ⟨r,B++List.replicate na none⟩):=qa1 X T na live qQy (by kernel_rfl) r B
theorem qFu(X:XEnv)(T:List Nat)(na:Nat)(live:List Nat)(r:List (Nat×AV))(B:qan):qau X T (yT na live qI2) ⟨r,B⟩=qdD live (qct (qaf X) X.lin T true B.length [z1 51 2 2,zA 52 1 51 [0],z0 53 7,z2 54 3 52 53 [1,2],zG 55 3 54 [3],z1 56 2 3,zA 57 1 56 [5],z0 58 7,z2 59 3 57 58 [6,7],zG 60 3 59 [8],zN 61 6 55 60 [4,9],zH 8 61 [0,1,2,3,4,5,6,7,8,9,10]] ⟨r,B++List.replicate na none⟩):=qa1 X T na live qI2 (by kernel_rfl) r B
theorem qhJ(X:XEnv)(T:List Nat)(na:Nat)(live:List Nat)(r:List (Nat×AV))(B:qan):qau X T (yT na live qI5) ⟨r,B⟩=qdD live (qct (qaf X) X.lin T true B.length [z0 13 1,z0 14 5,z2 15 4 13 14 [0,1],zP 16 0 15 [2],zA 17 1 16 [3],z0D 18 31 17 0 99 [4],z01 19 18 [5],zH 20 19 [5,6],z5 21 5 20 [7],z00 22 21 0 20 [7,8],z5 23 22 20 [7,9],zL 24 1 23 [10],zL 25 5 23 [10],zj 26 25 1 23 [10,12],zT 27 4 24 26 23 [10,11,13],zK 28 0 27 23 [10,14],zJ 29 1 28 23 [10,15],zL 30 1 23 [10],zL 31 5 23 [10],zT 32 4 30 31 23 [10,17,18],zK 33 0 32 23 [10,19],zJ 34 1 33 23 [10,20],z0y 35 29 34 23 [10,16,21],zU 36 23 35 20 [7,10,22],zE 37 20 36 [7,23],zH 38 37 [10,24],z5 39 0 38 [25],z5 40 1 38 [25],z5 41 5 38 [25],zY 42 4 40 41 38 [25,27,28],zQ 43 1 42 38 [25,29],z03 44 3 43 38 [25,30],zO 45 80 39 44 38 [25,26,31],zu 46 45 38 [25,32],zE 47 38 46 [25,33]] ⟨r,B++List.replicate na none⟩):=qa1 X T na live qI5 (by kernel_rfl) r B
theorem qwX(X:XEnv)(T:List Nat)(na:Nat)(live:List Nat)(r:List (Nat×AV))(B:qan):qau X T (yT na live qI4) ⟨r,B⟩=qdD live (qct (qaf X) X.lin T true B.length [z0 54 1,z0 55 6,z2 56 4 54 55 [0,1],zP 57 1 56 [2],zG 58 3 57 [3],z0 59 1,z0 60 5,z2 61 4 59 60 [5,6],zP 62 0 61 [7],zA 63 1 62 [8],zN 64 81 58 63 [4,9],⟨some 65,.bin .gtr (.t 64) (.c (.d (.int .i64 0))),none,[10]⟩] ⟨r,B++List.replicate na none⟩):=qa1 X T na live qI4 (by kernel_rfl) r B
theorem qlR(X:XEnv)(T:List Nat)(na:Nat)(live:List Nat)(r:List (Nat×AV))(B:qan):qau X T (yT na live qI3) ⟨r,B⟩=qdD live (qct (qaf X) X.lin T true B.length [z1 14 0 6,zA 15 1 14 [0],z0D 16 30 15 0 99 [1],z01 17 16 [2],zH 18 17 [2,3],z5 19 5 18 [4],z00 20 19 0 18 [4,5],z5 21 20 18 [4,6],zL 22 1 21 [7],zL 23 5 21 [7],zj 24 23 1 21 [7,9],zT 25 4 22 24 21 [7,8,10],zK 26 0 25 21 [7,11],zJ 27 1 26 21 [7,12],zK 28 0 6 21 [7],zJ 29 1 28 21 [7,14],z0y 30 27 29 21 [7,13,15],zU 31 21 30 18 [4,7,16],zE 32 18 31 [4,17],zH 33 32 [7,18],z5 34 0 33 [19],zQ 35 1 6 33 [19],z03 36 3 35 33 [19,21],zO 37 70 34 36 33 [19,20,22],zu 38 37 33 [19,23],zE 39 33 38 [19,24]] ⟨r,B++List.replicate na none⟩):=qa1 X T na live qI3 (by kernel_rfl) r B
theorem qB6(X:XEnv)(T:List Nat)(na:Nat)(live:List Nat)(r:List (Nat×AV))(B:qan):qau X T (yT na live qEF) ⟨r,B⟩=qdD live (qct (qaf X) X.lin T true B.length [z0 18 0,z1 19 0 3,zA 20 1 19 [1],zN 21 29 18 20 [0,2],z01 22 21 [3],zH 23 22 [3,4],zQ 24 1 3 23 [5],zW 25 1 24 23 [5,6],z0a 26 25 0 23 [5,7],zE 27 23 26 [5,8],zH 28 27 [5,9],z5 29 0 28 [10],zQ 30 0 3 28 [10],zW 31 1 30 28 [10,12],zY 32 3 29 31 28 [10,11,13],zQ 33 2 32 28 [10,14],zW 34 1 33 28 [10,15],zu 35 34 28 [10,16],z5 36 35 28 [10,17],zK 37 2 3 36 [18],zJ 38 1 37 36 [18,19],z0O 39 38 36 [18,20],zL 40 0 36 [18],zK 41 0 3 36 [18],zJ 42 1 41 36 [18,23],zT 43 3 40 42 36 [18,22,24],zK 44 1 43 36 [18,25],zJ 45 1 44 36 [18,26],z0z 46 39 45 36 [18,21,27],zU 47 36 46 28 [10,18,28],zE 48 28 47 [10,29],zH 49 48 [18,30],z5 50 0 49 [31],zQ 51 0 3 49 [31],zW 52 1 51 49 [31,33],zY 53 3 50 52 49 [31,32,34],zQ 54 2 53 49 [31,35],zW 55 1 54 49 [31,36],z5 56 55 49 [31,37],zK 57 2 3 56 [38],zJ 58 1 57 56 [38,39],z0O 59 58 56 [38,40],z0C 60 59 2 56 [38,41],zU 61 56 60 49 [31,38,42],zE 62 49 61 [31,43]] ⟨r,B++List.replicate na none⟩):=qa1 X T na live qEF (by kernel_rfl) r B
theorem qB5(X:XEnv)(T:List Nat)(na:Nat)(live:List Nat)(r:List (Nat×AV))(B:qan):qau X T (yT na live qED) ⟨r,B⟩=qdD live (qct (qaf X) X.lin T true B.length [z0 71 0,z9 72 3 6,zN 73 78 71 72 [0,1],z01 74 73 [2],zH 75 74 [2,3],z5 76 0 75 [4],zQ 77 0 3 75 [4],zW 78 1 77 75 [4,6],zY 79 3 76 78 75 [4,5,7],zQ 80 2 79 75 [4,8],zW 81 1 80 75 [4,9],z5 82 81 75 [4,10],zK 83 0 6 82 [11],zJ 84 1 83 82 [11,12],zK 85 0 3 82 [11],zJ 86 1 85 82 [11,14],z10 87 84 86 82 [11,13,15],zL 88 87 82 [11,16],z5 89 5 88 [17],z00 90 89 0 88 [17,18],z5 91 90 88 [17,19],zd 92 3 6 91 [20],zK 93 2 3 91 [20],zJ 94 1 93 91 [20,22],zL 95 5 91 [20],zj 96 95 1 91 [20,24],zT 97 3 94 96 91 [20,23,25],zd 98 3 97 91 [20,26],z06 99 79 92 98 91 [20,21,27],zU 100 91 99 88 [17,20,28],z0Z 101 88 100 82 [11,17,29],zU 102 82 101 75 [4,11,30],zE 103 75 102 [4,31]] ⟨r,B++List.replicate na none⟩):=qa1 X T na live qED (by kernel_rfl) r B
theorem qB4(X:XEnv)(T:List Nat)(na:Nat)(live:List Nat)(r:List (Nat×AV))(B:qan):qau X T (yT na live qEA) ⟨r,B⟩=qdD live (qct (qaf X) X.lin T true B.length [z1 18 0 3,zA 19 1 18 [0],z0 20 0,z0P 21 20 [2],zs 22 21 1 [3],⟨some 23,.call true (.c (.fn 31 [])) [.t 19,.c (.d (.int .i64 0)),.t 22],none,[1,4]⟩,z01 24 23 [5],zH 25 24 [5,6],zQ 26 1 3 25 [7],zW 27 1 26 25 [7,8],z0a 28 27 0 25 [7,9],zE 29 25 28 [7,10],zH 30 29 [7,11],z5 31 0 30 [12],zQ 32 0 3 30 [12],zW 33 1 32 30 [12,14],zY 34 3 31 33 30 [12,13,15],zQ 35 2 34 30 [12,16],zW 36 1 35 30 [12,17],zu 37 36 30 [12,18],z5 38 37 30 [12,19],zK 39 2 3 38 [20],zJ 40 1 39 38 [20,21],z0O 41 40 38 [20,22],zL 42 0 38 [20],zK 43 0 3 38 [20],zJ 44 1 43 38 [20,25],zT 45 3 42 44 38 [20,24,26],zK 46 1 45 38 [20,27],zJ 47 1 46 38 [20,28],z0z 48 41 47 38 [20,23,29],zU 49 38 48 30 [12,20,30],zE 50 30 49 [12,31],zH 51 50 [20,32],z5 52 0 51 [33],zQ 53 0 3 51 [33],zW 54 1 53 51 [33,35],zY 55 3 52 54 51 [33,34,36],zQ 56 2 55 51 [33,37],zW 57 1 56 51 [33,38],z5 58 57 51 [33,39],zK 59 2 3 58 [40],zJ 60 1 59 58 [40,41],z0O 61 60 58 [40,42],z0C 62 61 2 58 [40,43],zU 63 58 62 51 [33,40,44],zE 64 51 63 [33,45]] ⟨r,B++List.replicate na none⟩):=qa1 X T na live qEA (by kernel_rfl) r B
theorem qq1(X:XEnv)(T:List Nat)(na:Nat)(live:List Nat)(r:List (Nat×AV))(B:qan):qau X T (yT na live qEy) ⟨r,B⟩=qdD live (qct (qaf X) X.lin T true B.length [z0 72 0,z1 73 0 3,zA 74 1 73 [1],z2 75 3 72 74 [0,2],zP 76 2 75 [3],zA 77 1 76 [4],zH 78 77 [5],zK 79 2 3 78 [6],zJ 80 1 79 78 [6,7],zL 81 5 78 [6],zT 82 3 80 81 78 [6,8,9],zK 83 0 82 78 [6,10],zJ 84 1 83 78 [6,11],zK 85 0 3 78 [6],zJ 86 1 85 78 [6,13],z10 87 84 86 78 [6,12,14],zL 88 87 78 [6,15],z5 89 5 88 [16],z00 90 89 0 88 [16,17],z5 91 90 88 [16,18],zK 92 2 3 91 [19],zJ 93 1 92 91 [19,20],zL 94 5 91 [19],zT 95 3 93 94 91 [19,21,22],zd 96 3 95 91 [19,23],zK 97 2 3 91 [19],zJ 98 1 97 91 [19,25],zL 99 5 91 [19],zj 100 99 1 91 [19,27],zT 101 3 98 100 91 [19,26,28],zd 102 3 101 91 [19,29],z06 103 84 96 102 91 [19,24,30],zU 104 91 103 88 [16,19,31],z0Z 105 88 104 78 [6,16,32],z07 106 78 105 [6,33],zH 107 106 [31,34],z5 108 0 107 [35],zQ 109 2 3 107 [35],zW 110 1 109 107 [35,37],z5 111 5 107 [35],zY 112 3 110 111 107 [35,38,39],z03 113 3 112 107 [35,40],zO 114 83 108 113 107 [35,36,41],zu 115 114 107 [35,42],zE 116 107 115 [35,43]] ⟨r,B++List.replicate na none⟩):=qa1 X T na live qEy (by kernel_rfl) r B
theorem qju(X:XEnv)(T:List Nat)(na:Nat)(live:List Nat)(r:List (Nat×AV))(B:qan):qau X T (yT na live qzz) ⟨r,B⟩=qdD live (qct (qaf X) X.lin T true B.length [z1 47 2 2,zA 48 1 47 [0],z0 49 5,z2 50 3 48 49 [1,2],zG 51 3 50 [3],z1 52 2 3,zA 53 1 52 [5],z0 54 5,z2 55 3 53 54 [6,7],zG 56 3 55 [8],zN 57 3 51 56 [4,9],z01 58 57 [10]] ⟨r,B++List.replicate na none⟩):=qa1 X T na live qzz (by kernel_rfl) r B
theorem qjt(X:XEnv)(T:List Nat)(na:Nat)(live:List Nat)(r:List (Nat×AV))(B:qan):qau X T (yT na live qzy) ⟨r,B⟩=qdD live (qct (qaf X) X.lin T true B.length [z1 59 2 2,zA 60 1 59 [0],z0 61 5,z2 62 3 60 61 [1,2],zG 63 3 62 [3],z1 64 2 3,zA 65 1 64 [5],z0 66 5,z2 67 3 65 66 [6,7],zG 68 3 67 [8],zN 69 84 63 68 [4,9],zH 4 69 [0,1,2,3,4,5,6,7,8,9,10]] ⟨r,B++List.replicate na none⟩):=qa1 X T na live qzy (by kernel_rfl) r B
theorem qB3(X:XEnv)(T:List Nat)(na:Nat)(live:List Nat)(r:List (Nat×AV))(B:qan):qau X T (yT na live qIP) ⟨r,B⟩=qdD live (qct (qaf X) X.lin T true B.length [z0 17 5,⟨some 18,.bin .add (.t 17) (.c (.d (.str ⟨#[88]⟩))),none,[0]⟩,z0 19 1,z0 20 6,z2 21 4 19 20 [2,3],zP 22 0 21 [4],zA 23 1 22 [5],zr 24 39 23 [6],zn 25 18 24 [1,7],⟨some 26,.bin .add (.t 25) (.c (.d (.str ⟨#[61]⟩))),none,[8]⟩,z0 27 0,z0 28 1,z0 29 6,z2 30 4 28 29 [11,12],zP 31 1 30 [13],zG 32 3 31 [14],zN 33 98 27 32 [7,10,15],zn 34 26 33 [9,16],zH 5 34 [0,1,2,3,4,5,6,7,8,9,10,11,12,13,14,15,16,17]] ⟨r,B++List.replicate na none⟩):=qa1 X T na live qIP (by kernel_rfl) r B
theorem qFt(X:XEnv)(T:List Nat)(na:Nat)(live:List Nat)(r:List (Nat×AV))(B:qan):qau X T (yT na live qIO) ⟨r,B⟩=qdD live (qct (qaf X) X.lin T true B.length [z0 15 5,z1 16 0 7,zA 17 1 16 [1],zr 18 38 17 [2],⟨some 19,.bin .add (.c (.d (.str ⟨#[88]⟩))) (.t 18),none,[3]⟩,⟨some 20,.bin .add (.t 19) (.c (.d (.str ⟨#[61]⟩))),none,[4]⟩,z0 21 0,z1 22 1 7,zG 23 3 22 [7],zN 24 92 21 23 [3,6,8],zn 25 20 24 [5,9],⟨some 26,.buildSlice 1 (.str ⟨#[]⟩) 1 [(0,.t 25)],none,[10]⟩,z04 27 1 16 15 26 [0,9,11],zH 5 27 [0,1,2,3,4,5,6,7,8,9,10,11,12]] ⟨r,B++List.replicate na none⟩):=qa1 X T na live qIO (by kernel_rfl) r B
theorem qs2(X:XEnv)(T:List Nat)(na:Nat)(live:List Nat)(r:List (Nat×AV))(B:qan):qau X T (yT na live qsx) ⟨r,B⟩=qdD live (qct (qaf X) X.lin T true B.length [z9 57 3 6,z0 58 3,z0 59 4,z9 60 3 5,z0K 61 141 58 59 60 [1,2,3],zN 62 4 57 61 [0,4],z01 63 62 [5],zH 64 63 [5,6],z5 65 11 64 [7],z5 66 7 64 [7],z5 67 8 64 [7],z5 68 9 64 [7],z03 69 3 10 64 [7],⟨some 70,.call true (.c (.fn 142 [])) [.t 66,.t 67,.t 68,.t 69],some (64,false),[7,9,10,11,12]⟩,zO 71 143 65 70 64 [7,8,13],zu 72 71 64 [7,14],zE 73 64 72 [7,15],zH 74 73 [14,16],z5 75 12 74 [17],z5 76 13 74 [17],zO 77 144 75 76 74 [17,18,19],z5 78 12 74 [17],z5 79 13 74 [17],zO 80 145 78 79 74 [17,20,21,22],zO 81 4 77 80 74 [17,20,23],zu 82 81 74 [17,24],zE 83 74 82 [17,25],zH 84 83 [24,26],z5 85 14 84 [27],z5 86 15 84 [27],zO 87 68 85 86 84 [27,28,29],z5 88 14 84 [27],z5 89 15 84 [27],zO 90 67 88 89 84 [27,30,31,32],⟨some 91,.eqB true (.t 87) (.t 90),some (84,false),[27,30,33]⟩,zE 92 84 91 [27,34],zH 93 92 [33,35],z5 94 16 93 [36],z5 95 17 93 [36],zO 96 91 94 95 93 [36,37,38],z5 97 16 93 [36],z5 98 17 93 [36],zO 99 90 97 98 93 [36,39,40,41],⟨some 100,.bin .neq (.t 96) (.t 99),some (93,false),[36,39,42]⟩,zE 101 93 100 [36,43]] ⟨r,B++List.replicate na none⟩):=qa1 X T na live qsx (by kernel_rfl) r B
theorem qs1(X:XEnv)(T:List Nat)(na:Nat)(live:List Nat)(r:List (Nat×AV))(B:qan):qau X T (yT na live qsw) ⟨r,B⟩=qdD live (qct (qaf X) X.lin T true B.length [z0 102 3,z0 103 4,zN 104 68 102 103 [0,1],zH 105 104 [2],zL 106 3 105 [3],zL 107 4 105 [3],zd 108 3 6 105 [3],⟨some 109,.call true (.c (.fn 135 [])) [.t 106,.t 107,.t 108],some (105,true),[3,4,5,6]⟩,zd 110 3 6 105 [3],z06 111 4 109 110 105 [3,7,8],z1C 112 111 105 [3,9],z07 113 105 112 [3,10]] ⟨r,B++List.replicate na none⟩):=qa1 X T na live qsw (by kernel_rfl) r B
theorem qs0(X:XEnv)(T:List Nat)(na:Nat)(live:List Nat)(r:List (Nat×AV))(B:qan):qau X T (yT na live qsv) ⟨r,B⟩=qdD live (qct (qaf X) X.lin T true B.length [z0 114 11,z0 115 9,zN 116 144 114 115 [0,1],z9 117 3 10,zN 118 4 116 117 [2,3],zH 2 118 [0,1,2,3,4]] ⟨r,B++List.replicate na none⟩):=qa1 X T na live qsv (by kernel_rfl) r B
theorem qhK(X:XEnv)(T:List Nat)(na:Nat)(live:List Nat)(r:List (Nat×AV))(B:qan):qau X T (yT na live qAM) ⟨r,B⟩=qdD live (qct (qaf X) X.lin T true B.length [z0 32 10,z3 33 1 6,z9 34 3 7,zr 35 150 34 [2],zh 36 0 0 0 0 1 33 1 3 35 [1,3],zf 37 4 0 0 0 1 0 36 [4],z04 38 4 48 32 37 [0,3,5],zH 10 38 [0,1,2,3,4,5,6]] ⟨r,B++List.replicate na none⟩):=qa1 X T na live qAM (by kernel_rfl) r B
theorem qfj(X:XEnv)(T:List Nat)(na:Nat)(live:List Nat)(r:List (Nat×AV))(B:qan):qau X T (yT na live qsu) ⟨r,B⟩=qdD live (qct (qaf X) X.lin T true B.length [z0 43 10,z1 44 0 13,zA 45 1 44 [1],z0 46 0,z0 47 9,z1 48 1 13,zG 49 3 48 [5],z0K 50 135 46 47 49 [3,4,6],zh 51 0 0 0 0 1 45 1 3 50 [2,7],zf 52 4 0 0 0 1 0 51 [8],z04 53 4 48 43 52 [0,7,9],zH 10 53 [0,1,2,3,4,5,6,7,8,9,10]] ⟨r,B++List.replicate na none⟩):=qa1 X T na live qsu (by kernel_rfl) r B
theorem qfi(X:XEnv)(T:List Nat)(na:Nat)(live:List Nat)(r:List (Nat×AV))(B:qan):qau X T (yT na live qst) ⟨r,B⟩=qdD live (qct (qaf X) X.lin T true B.length [z0 57 10,z3 58 1 6,z9 59 3 7,zr 60 150 59 [2],zh 61 0 0 0 0 1 58 1 3 60 [1,3],zf 62 4 0 0 0 1 0 61 [4],z04 63 4 48 57 62 [0,3,5],zH 10 63 [0,1,2,3,4,5,6]] ⟨r,B++List.replicate na none⟩):=qa1 X T na live qst (by kernel_rfl) r B
theorem qdk(X:XEnv)(T:List Nat)(na:Nat)(live:List Nat)(r:List (Nat×AV))(B:qan):qau X T (yT na live qss) ⟨r,B⟩=qdD live (qct (qaf X) X.lin T true B.length [z0 49 9,z0 50 1,z0 51 12,z2 52 4 50 51 [1,2],zP 53 0 52 [3],zA 54 1 53 [4],z0 55 0,z0 56 10,z0 57 1,z0 58 12,z2 59 4 57 58 [8,9],zP 60 1 59 [10],zG 61 3 60 [11],z0K 62 141 55 56 61 [6,7,12],zh 63 0 0 0 0 1 54 1 3 62 [5,13],zf 64 4 0 0 0 1 0 63 [14],z04 65 4 48 49 64 [0,13,15],zH 9 65 [0,1,2,3,4,5,6,7,8,9,10,11,12,13,14,15,16]] ⟨r,B++List.replicate na none⟩):=qa1 X T na live qss (by kernel_rfl) r B
theorem qq2(X:XEnv)(T:List Nat)(na:Nat)(live:List Nat)(r:List (Nat×AV))(B:qan):qau X T (yT na live qAL) ⟨r,B⟩=qdD live (qct (qaf X) X.lin T true B.length [z0 17 0,z0 18 5,z2 19 4 17 18 [0,1],zP 20 0 19 [2],zA 21 1 20 [3],z0 22 1,z0 23 5,z2 24 4 22 23 [5,6],zP 25 0 24 [7],zA 26 1 25 [8],⟨some 27,.bin .neq (.t 21) (.t 26),none,[4,9]⟩,zH 28 27 [10],z5 29 0 28 [11],z5 30 5 28 [11],zY 31 4 29 30 28 [11,12,13],zQ 32 1 31 28 [11,14],z03 33 3 32 28 [11,15],z5 34 1 28 [11],z5 35 5 28 [11],zY 36 4 34 35 28 [11,17,18],zQ 37 1 36 28 [11,19],z03 38 3 37 28 [11,20],zO 39 3 33 38 28 [11,16,21],zu 40 39 28 [11,22],zE 41 28 40 [11,23]] ⟨r,B++List.replicate na none⟩):=qa1 X T na live qAL (by kernel_rfl) r B
theorem quY(X:XEnv)(T:List Nat)(na:Nat)(live:List Nat)(r:List (Nat×AV))(B:qan):qau X T (yT na live qAF) ⟨r,B⟩=qdD live (qct (qaf X) X.lin T true B.length [z1 17 2 3,zA 18 1 17 [0],z1 19 2 1,zA 20 1 19 [2],z0 21 4,z2 22 3 20 21 [3,4],zG 23 3 22 [5],zr 24 146 23 [6],z0L 25 3 0 0 1 0 24 [7],z04 26 3 40 18 25 [1,7,8],zP 27 2 3 [0,1,2,3,4,5,6,7,8,9],zX 1 27 26 [0,1,2,3,4,5,6,7,8,9,10]] ⟨r,B++List.replicate na none⟩):=qa1 X T na live qAF (by kernel_rfl) r B
theorem qlT(X:XEnv)(T:List Nat)(na:Nat)(live:List Nat)(r:List (Nat×AV))(B:qan):qau X T (yT na live qAA) ⟨r,B⟩=qdD live (qct (qaf X) X.lin T true B.length [z1 32 2 5,zA 33 1 32 [0],z0 34 0,z1 35 2 3,zA 36 1 35 [3],z0 37 6,z2 38 3 36 37 [4,5],zG 39 3 38 [6],zN 40 152 34 39 [2,7],z0L 41 3 0 0 1 0 40 [8],z04 42 3 40 33 41 [1,8,9],zP 43 2 5 [0,1,2,3,4,5,6,7,8,9,10],zX 1 43 42 [0,1,2,3,4,5,6,7,8,9,10,11]] ⟨r,B++List.replicate na none⟩):=qa1 X T na live qAA (by kernel_rfl) r B
theorem qlS(X:XEnv)(T:List Nat)(na:Nat)(live:List Nat)(r:List (Nat×AV))(B:qan):qau X T (.regionF true na live qAz) ⟨r,B⟩=qdD live (xFs (qaf X) X.lin T true B.length [
 .one (z1 35 2 5),.one (zA 36 1 35 [0]),.one (z1 37 2 7),
 .el 38 37 39 (.t 8) 40 3 41 [2] [] [3,4] [5],.one ⟨some 42,.call false (.c (.fn 154 [])) [.t 36,.t 41],none,[1,6]⟩,.one (zP 43 2 5 [0,1,2,3,4,5,6,7]),.one (zX 1 43 42 [0,1,2,3,4,5,6,7,8])] ⟨r,B++List.replicate na none⟩):=qHS X T na live qAz (by kernel_rfl) r B
theorem qCa(X:XEnv)(T:List Nat)(na:Nat)(live:List Nat)(r:List (Nat×AV))(B:qan):qau X T (yT na live qAy) ⟨r,B⟩=qdD live (qct (qaf X) X.lin T true B.length [z0 7 5,z0 8 0,z0P 9 8 [1],z16 10 7 9 [0,2],zH 11 10 [3],zd 12 3 3 11 [4],zL 13 0 11 [4],zL 14 5 11 [4],zT 15 3 13 14 11 [4,6,7],zd 16 3 15 11 [4,8],z06 17 84 12 16 11 [4,5,9],z1C 18 17 11 [4,10],z07 19 11 18 [4,11]] ⟨r,B++List.replicate na none⟩):=qa1 X T na live qAy (by kernel_rfl) r B
theorem qB9(X:XEnv)(T:List Nat)(na:Nat)(live:List Nat)(r:List (Nat×AV))(B:qan):qau X T (yT na live qAx) ⟨r,B⟩=qdD live (qct (qaf X) X.lin T true B.length [z0H 17 155,z0 18 0,⟨some 19,.callS 0 (.c (.fn 159 [])) [.t 18,.c (.d (.int .i64 2))],none,[0,1]⟩,⟨some 20,.bin .add (.c (.d (.int .i64 5))) (.t 19),none,[2]⟩,zr 21 147 20 [2,3],⟨some 22,.loadS true 3 (.t 5) 0,none,[]⟩,⟨some 23,.buildSlice 3 (.agg [.int .i64 0,.int .i64 0,.sl .nil []]) 2 [(0,.t 21),(1,.t 22)],none,[4,5]⟩,⟨some 24,.call true (.c (.fn 164 [])) [.c (.d (.int .i64 5)),.t 23],none,[4,6]⟩,zN 25 153 17 24 [0,7],zX 3 5 25 [0,1,2,3,4,5,6,7,8]] ⟨r,B++List.replicate na none⟩):=qa1 X T na live qAx (by kernel_rfl) r B
theorem qOD(X:XEnv)(T:List Nat)(na:Nat)(live:List Nat)(r:List (Nat×AV))(B:qan):qau X T (yT na live qpQ) ⟨r,B⟩=qdD live (qct (qaf X) X.lin T true B.length [z0 25 4,zt 26 25 [0],zP 27 2 26 [1],z1B 28 1 27 0 [2],z0 29 0,z0 30 4,zt 31 30 [5],zP 32 2 31 [6],zA 33 1 32 [7],z0P 34 33 [8],⟨some 35,.callS 0 (.c (.fn 159 [])) [.t 29,.t 34],none,[4,9]⟩,z2 36 3 28 35 [3,10],zH 4 36 [0,1,2,3,4,5,6,7,8,9,10,11]] ⟨r,B++List.replicate na none⟩):=qa1 X T na live qpQ (by kernel_rfl) r B
theorem qKe(X:XEnv)(T:List Nat)(na:Nat)(live:List Nat)(r:List (Nat×AV))(B:qan):qau X T (.regionT na live qod qhf) ⟨r,B⟩=xTl (qaf X) X.lin T B.length live [⟨some 65,.append1 3 40 (.t 60) (.t 64) (.t 63) (.t 62) 66,none,[]⟩,z0X 67 57,z1 68 2 67,z7 1 68 65] (qct (qaf X) X.lin T true B.length [z0 57 4,zt 58 57 [0],zP 59 2 58 [1],z1B 60 1 59 0 [2],z0 61 0,⟨some 62,.callS 0 (.c (.fn 166 [])) [.t 61,.c (.d (.int .i64 1)),.c (.d (.int .i64 2))],none,[4]⟩,z0P 63 60 [3],z0V 64 3 0 0 1 0 0 0] ⟨r,B++List.replicate na none⟩):=qxH X T na live qod qhf (by kernel_rfl) r B
theorem qHC(X:XEnv)(T:List Nat)(na:Nat)(live:List Nat)(r:List (Nat×AV))(B:qan):qau X T (yT na live qAp) ⟨r,B⟩=qdD live (qct (qaf X) X.lin T true B.length [z0 13 0,zt 14 13 [0],zP 15 2 14 [1],zA 16 1 15 [2],z0g 17 16 33 [3],z0 18 0,zt 19 18 [5],zP 20 2 19 [6],zA 21 1 20 [7],z0g 22 21 45 [8],⟨some 23,.bin .xor (.t 17) (.t 22),none,[4,9]⟩,z0h 24 23 255 [10],zH 3 24 [0,1,2,3,4,5,6,7,8,9,10,11]] ⟨r,B++List.replicate na none⟩):=qa1 X T na live qAp (by kernel_rfl) r B
theorem qHB(X:XEnv)(T:List Nat)(na:Nat)(live:List Nat)(r:List (Nat×AV))(B:qan):qau X T (yT na live qAo) ⟨r,B⟩=qdD live (qct (qaf X) X.lin T true B.length [z0 25 0,zt 26 25 [0],zP 27 1 26 [1],zA 28 1 27 [2],z0 29 0,zt 30 29 [4],zP 31 0 30 [5],zA 32 1 31 [6],z0P 33 32 [7],z16 34 28 33 [3,8]] ⟨r,B++List.replicate na none⟩):=qa1 X T na live qAo (by kernel_rfl) r B
theorem qHA(X:XEnv)(T:List Nat)(na:Nat)(live:List Nat)(r:List (Nat×AV))(B:qan):qau X T (yT na live qAn) ⟨r,B⟩=qdD live (qct (qaf X) X.lin T true B.length [z0 35 3,z0 36 0,zt 37 36 [1],zP 38 0 37 [2],zA 39 1 38 [3],z0 40 0,zt 41 40 [5],zP 42 1 41 [6],zA 43 1 42 [7],z2 44 1 39 43 [4,8],zA 45 1 44 [9],⟨some 46,.conv (.kind .i64) (.t 45),none,[10]⟩,zn 47 35 46 [0,11],z0h 48 47 255 [12],zH 3 48 [0,1,2,3,4,5,6,7,8,9,10,11,12,13]] ⟨r,B++List.replicate na none⟩):=qa1 X T na live qAn (by kernel_rfl) r B
theorem qHz(X:XEnv)(T:List Nat)(na:Nat)(live:List Nat)(r:List (Nat×AV))(B:qan):qau X T (yT na live qtM) ⟨r,B⟩=qdD live (qct (qaf X) X.lin T true B.length [z0 18 9,z0 19 1,⟨some 20,.bin .gtr (.t 18) (.t 19),none,[0,1]⟩,zH 21 20 [2],zL 22 3 21 [3],zL 23 0 21 [3],zL 24 9 21 [3],zT 25 3 23 24 21 [3,5,6],zd 26 3 25 21 [3,7],zL 27 0 21 [3],zL 28 9 21 [3],zj 29 28 1 21 [3,10],zT 30 3 27 29 21 [3,9,11],zd 31 3 30 21 [3,12],⟨some 32,.call false (.t 22) [.t 26,.t 31],some (21,true),[3,4,8,13]⟩,z0C 33 32 0 21 [3,14],z07 34 21 33 [3,15]] ⟨r,B++List.replicate na none⟩):=qa1 X T na live qtM (by kernel_rfl) r B
theorem qHy(X:XEnv)(T:List Nat)(na:Nat)(live:List Nat)(r:List (Nat×AV))(B:qan):qau X T (yT na live qtL) ⟨r,B⟩=qdD live (qct (qaf X) X.lin T true B.length [z0 37 0,z0 38 9,z0 39 0,z0 40 9,zs 41 40 1 [3],z0 42 0,z0 43 9,zs 44 43 1 [6],z2 45 3 42 44 [5,7],zG 46 3 45 [8],z0 47 0,z0 48 9,z2 49 3 47 48 [10,11],zG 50 3 49 [12],z2 51 3 37 38 [0,1,5,6,7,8,9,13],zX 3 51 46 [0,1,5,6,7,8,9,13,14],z2 52 3 39 41 [0,1,2,3,4,5,6,7,8,9,10,11,12,13,14,15],zX 3 52 50 [0,1,2,3,4,5,6,7,8,9,10,11,12,13,14,15,16]] ⟨r,B++List.replicate na none⟩):=qa1 X T na live qtL (by kernel_rfl) r B
theorem qOC(X:XEnv)(T:List Nat)(na:Nat)(live:List Nat)(r:List (Nat×AV))(B:qan):qau X T (yT na live qtJ) ⟨r,B⟩=qdD live (qct (qaf X) X.lin T true B.length [z0 40 4,z0 41 0,z0 42 12,z2 43 3 41 42 [1,2],zG 44 3 43 [3],z0 45 0,z0 46 1,z2 47 3 45 46 [5,6],zG 48 3 47 [7],z0b 49 40 44 48 [0,4,8],z0J 50 49 0 [9]] ⟨r,B++List.replicate na none⟩):=qa1 X T na live qtJ (by kernel_rfl) r B
theorem qKd(X:XEnv)(T:List Nat)(na:Nat)(live:List Nat)(r:List (Nat×AV))(B:qan):qau X T (yT na live qoa) ⟨r,B⟩=qdD live (qct (qaf X) X.lin T true B.length [z0 61 0,z0 62 13,z0 63 0,z0 64 13,z0i 65 64 1 [3],z0 66 0,z0 67 13,z0i 68 67 1 [6],z2 69 3 66 68 [5,7],zG 70 3 69 [8],z0 71 0,z0 72 13,z2 73 3 71 72 [10,11],zG 74 3 73 [12],z2 75 3 61 62 [0,1,5,6,7,8,9,13],zX 3 75 70 [0,1,5,6,7,8,9,13,14],z2 76 3 63 65 [0,1,2,3,4,5,6,7,8,9,10,11,12,13,14,15],zX 3 76 74 [0,1,2,3,4,5,6,7,8,9,10,11,12,13,14,15,16]] ⟨r,B++List.replicate na none⟩):=qa1 X T na live qoa (by kernel_rfl) r B
theorem qB8(X:XEnv)(T:List Nat)(na:Nat)(live:List Nat)(r:List (Nat×AV))(B:qan):qau X T (yT na live qn7) ⟨r,B⟩=qdD live (qct (qaf X) X.lin T true B.length [z0 92 4,z0 93 0,z0 94 2,z2 95 3 93 94 [1,2],zG 96 3 95 [3],z0 97 0,z0 98 16,z2 99 3 97 98 [5,6],zG 100 3 99 [7],z0b 101 92 96 100 [0,4,8],z0J 102 101 0 [9],z01 103 102 [10]] ⟨r,B++List.replicate na none⟩):=qa1 X T na live qn7 (by kernel_rfl) r B
theorem qKc(X:XEnv)(T:List Nat)(na:Nat)(live:List Nat)(r:List (Nat×AV))(B:qan):qau X T (yT na live qn6) ⟨r,B⟩=qdD live (qct (qaf X) X.lin T true B.length [z0 113 0,z0 114 17,z0 115 0,z0 116 17,zs 117 116 1 [3],z0 118 0,z0 119 17,zs 120 119 1 [6],z2 121 3 118 120 [5,7],zG 122 3 121 [8],z0 123 0,z0 124 17,z2 125 3 123 124 [10,11],zG 126 3 125 [12],z2 127 3 113 114 [0,1,5,6,7,8,9,13],zX 3 127 122 [0,1,5,6,7,8,9,13,14],z2 128 3 115 117 [0,1,2,3,4,5,6,7,8,9,10,11,12,13,14,15],zX 3 128 126 [0,1,2,3,4,5,6,7,8,9,10,11,12,13,14,15,16]] ⟨r,B++List.replicate na none⟩):=qa1 X T na live qn6 (by kernel_rfl) r B
theorem qB7(X:XEnv)(T:List Nat)(na:Nat)(live:List Nat)(r:List (Nat×AV))(B:qan):qau X T (yT na live qn4) ⟨r,B⟩=qdD live (qct (qaf X) X.lin T true B.length [z0 158 4,z0 159 0,z0 160 22,z0 161 23,⟨some 162,.bin .sub (.t 160) (.t 161),none,[2,3]⟩,z2 163 3 159 162 [1,4],zG 164 3 163 [5],z0 165 0,z0 166 23,z2 167 3 165 166 [7,8],zG 168 3 167 [9],z0b 169 158 164 168 [0,6,10],z0J 170 169 0 [11],z01 171 170 [12]] ⟨r,B++List.replicate na none⟩):=qa1 X T na live qn4 (by kernel_rfl) r B
theorem qOB(X:XEnv)(T:List Nat)(na:Nat)(live:List Nat)(r:List (Nat×AV))(B:qan):qau X T (yT na live qtE) ⟨r,B⟩=qdD live (qct (qaf X) X.lin T true B.length [z0 16 0,z0 17 1,z0 18 10,zn 19 17 18 [1,2],z0 20 0,z0 21 2,z0 22 10,zn 23 21 22 [5,6],z0 24 0,z0 25 2,z0 26 10,zn 27 25 26 [9,10],z2 28 3 24 27 [8,11],zG 29 3 28 [12],z0 30 0,z0 31 1,z0 32 10,zn 33 31 32 [15,16],z2 34 3 30 33 [14,17],zG 35 3 34 [18],z2 36 3 16 19 [0,1,2,3,8,9,10,11,12,13,19],zX 3 36 29 [0,1,2,3,8,9,10,11,12,13,19,20],z2 37 3 20 23 [0,1,2,3,4,5,6,7,8,9,10,11,12,13,14,15,16,17,18,19,20,21],zX 3 37 35 [0,1,2,3,4,5,6,7,8,9,10,11,12,13,14,15,16,17,18,19,20,21,22]] ⟨r,B++List.replicate na none⟩):=qa1 X T na live qtE (by kernel_rfl) r B
theorem qAX:∀{l:List (Nat×VFn)} {k:Nat} {v:VFn},look l k=some v->(k,v)∈l
 | [],_,_,h=>by simp[look]at h
 |(a,u)::r,k,v,h=>by
  simp only[look]at h;split at h
  ·rename_i hk
   simp at h;subst h;subst hk;simp
  ·exact List.mem_cons_of_mem _ (qAX h)
theorem qJy:qFx.all (fun q=>q.2.linOK (qqp qJw q.1))=true:=by kernel_rfl
theorem qEj:qIA.all (fun q=>q.2.pre.linOK (qqp qJw q.1)&&q.2.rest.linOK (qqp qJw q.1)&&qas (qqp qJw q.1) (q.2.results.flatMap VRes.vx)&&(qqp qJw q.1).all (fun j=>decide (q.2.np<=j)))=true:=by kernel_rfl
theorem quy:∀q,q∈qE2->qCX q.2 (qxD q.2)/\qqp qJw q.1=[]:=List.forall_mem_cons.2 ⟨⟨qFc,by kernel_rfl⟩,List.forall_mem_nil _⟩
theorem xok:XOK XV:=⟨fun f vf h=>List.all_eq_true.1 qJy (f,vf) (qAX h),fun f g h=>⟨qxD g,by show(qlu qE2 f).map qxD=_;rw[show qlu qE2 f=some g from h];rfl,(quy (f,g) (qhp h)).1,(quy (f,g) (qhp h)).2⟩,fun f h=>by show(qlu qE2 f).map qxD=_;rw[show qlu qE2 f=none from h];rfl,fun f sf h=>by
 have:=List.all_eq_true.1 qEj (f,sf) (qlt h);simp only[Bool.and_eq_true]at this;exact⟨this.1.1.1,this.1.1.2,this.1.2,this.2⟩⟩
end Go.Proofs.Ytfiakfiocdfpbaa.VS
