/- Which registers of each function may own rows; the functions for the evaluator without names. -/
import Derived.Test.YtfiakfiocdfpbaaNat2
import Derived.Test.YtfiakfiocdfpbaaCode
import Derived.KernelRfl
set_option linter.unusedVariables false
namespace Go.Proofs.Ytfiakfiocdfpbaa.VS
def qGQ:List (Nat×List Nat):=[(25,[15]),(68,[13]),(78,[70]),(104,[2,4,8]),(105,[8]),(107,[2,5,6,7]),(110,[2,5]),(111,[4,12,26,27]),(112,[4,6,10,11,12,27,31,32,34,35,36,40]),(118,[28]),(134,[2,3,6,10,11,12,14]),(135,[11]),(144,[7,10,11,16,18]),(146,[9,18,24,25,26,28]),(147,[4]),(148,[13,19,21]),(149,[4]),(150,[5,7]),(151,[2,3,6,12,13,15,16,17,19]),(153,[13,27,36,41,42,51,52,53,54,63,64,65,67]),(154,[0,1,4,6,22,25,26,27,28,29,30,31,34,35]),(155,[0,8]),(156,[28,30]),(157,[2,3,5,10,15,16,17,18,26,29]),(158,[2,3,6,14,21,22,25,26,28,29,30,31,32]),(161,[7,60,62,64,65,72,73]),(163,[9]),(164,[6,7]),(166,[8,24,28,36,37,40,45,46,47,50]),(168,[5,19,20,27,28,31,32,33,35,37]),(169,[5,8,15,18,30,32,33,34,35,36,37,45,47]),(172,[46,50]),(173,[70,74,122,126]),(175,[29,35]),(176,[13,15,17,18,19,21,24,48,52]),(177,[2,5,8,10,11,12,13,14,15,16]),(180,[2,15,18,24,28,29,30,31])]
def qoq:List (Nat×List Nat)->Nat->List Nat
 | [],_=>[]
 |(k,v)::r,n=>if n=k then v else qoq r n
noncomputable def XV:XEnv:=⟨E,qoq qGQ,qlr qEK⟩
noncomputable def XW:XEnv:=⟨⟨look qw2,fun _=>none,fun _=>none,qAL qFq⟩,qoq qGQ,fun _=>none⟩
@[simp] theorem qTG:XV.lin 3=[]:=by kernel_rfl
theorem qHA:XV.env.code 3=some v3:=by kernel_rfl
@[simp] theorem qTF:XV.lin 6=[]:=by kernel_rfl
theorem qxX:XV.env.code 6=some v6:=by kernel_rfl
@[simp] theorem qTf:XV.lin 13=[]:=by kernel_rfl
theorem qDJ:XV.env.code 13=some v13:=by kernel_rfl
@[simp] theorem qTe:XV.lin 14=[]:=by kernel_rfl
theorem qDI:XV.env.code 14=some v14:=by kernel_rfl
@[simp] theorem qTd:XV.lin 18=[]:=by kernel_rfl
theorem qDH:XV.env.code 18=some v18:=by kernel_rfl
@[simp] theorem qNu:XV.lin 19=[]:=by kernel_rfl
theorem qDG:XV.env.code 19=some v19:=by kernel_rfl
@[simp] theorem qTc:XV.lin 22=[]:=by kernel_rfl
theorem qDF:XV.env.code 22=some v22:=by kernel_rfl
@[simp] theorem qTb:XV.lin 23=[]:=by kernel_rfl
theorem qDE:XV.env.code 23=some v23:=by kernel_rfl
@[simp] theorem qTa:XV.lin 24=[]:=by kernel_rfl
theorem qDD:XV.env.code 24=some v24:=by kernel_rfl
@[simp] theorem qGR:XV.lin 25=[15]:=by kernel_rfl
theorem qsS:XV.env.code 25=some v25:=by kernel_rfl
@[simp] theorem qS9:XV.lin 29=[]:=by kernel_rfl
theorem qDC:XV.env.code 29=some v29:=by kernel_rfl
@[simp] theorem qS8:XV.lin 30=[]:=by kernel_rfl
theorem qDB:XV.env.code 30=some v30:=by kernel_rfl
@[simp] theorem qS7:XV.lin 31=[]:=by kernel_rfl
theorem qDA:XV.env.code 31=some v31:=by kernel_rfl
@[simp] theorem qS6:XV.lin 33=[]:=by kernel_rfl
theorem qDz:XV.env.code 33=some v33:=by kernel_rfl
@[simp] theorem qS5:XV.lin 34=[]:=by kernel_rfl
theorem qDy:XV.env.code 34=some v34:=by kernel_rfl
@[simp] theorem qS4:XV.lin 47=[]:=by kernel_rfl
theorem qOA:XV.env.code 47=some v47:=by kernel_rfl
@[simp] theorem qS3:XV.lin 53=[]:=by kernel_rfl
theorem qDx:XV.env.code 53=some v53:=by kernel_rfl
@[simp] theorem qS2:XV.lin 54=[]:=by kernel_rfl
theorem qOz:XV.env.code 54=some v54:=by kernel_rfl
@[simp] theorem qS1:XV.lin 55=[]:=by kernel_rfl
theorem qOy:XV.env.code 55=some v55:=by kernel_rfl
@[simp] theorem qS0:XV.lin 56=[]:=by kernel_rfl
theorem qOx:XV.env.code 56=some v56:=by kernel_rfl
@[simp] theorem qSZ:XV.lin 59=[]:=by kernel_rfl
theorem qDw:XV.env.code 59=some v59:=by kernel_rfl
@[simp] theorem qSY:XV.lin 60=[]:=by kernel_rfl
theorem qDv:XV.env.code 60=some v60:=by kernel_rfl
@[simp] theorem qSX:XV.lin 61=[]:=by kernel_rfl
theorem qDu:XV.env.code 61=some v61:=by kernel_rfl
@[simp] theorem qSW:XV.lin 62=[]:=by kernel_rfl
theorem qDt:XV.env.code 62=some v62:=by kernel_rfl
@[simp] theorem qNt:XV.lin 68=[13]:=by kernel_rfl
theorem qDs:XV.env.code 68=some v68:=by kernel_rfl
@[simp] theorem qSV:XV.lin 70=[]:=by kernel_rfl
theorem qDr:XV.env.code 70=some v70:=by kernel_rfl
@[simp] theorem qSU:XV.lin 71=[]:=by kernel_rfl
theorem qDq:XV.env.code 71=some v71:=by kernel_rfl
@[simp] theorem qST:XV.lin 72=[]:=by kernel_rfl
theorem qDp:XV.env.code 72=some v72:=by kernel_rfl
@[simp] theorem qSS:XV.lin 73=[]:=by kernel_rfl
theorem qDo:XV.env.code 73=some v73:=by kernel_rfl
@[simp] theorem qSR:XV.lin 74=[]:=by kernel_rfl
theorem qDn:XV.env.code 74=some v74:=by kernel_rfl
@[simp] theorem qSQ:XV.lin 75=[]:=by kernel_rfl
theorem qDm:XV.env.code 75=some v75:=by kernel_rfl
@[simp] theorem qNs:XV.lin 76=[]:=by kernel_rfl
theorem qDl:XV.env.code 76=some v76:=by kernel_rfl
@[simp] theorem qNr:XV.lin 77=[]:=by kernel_rfl
theorem qDk:XV.env.code 77=some v77:=by kernel_rfl
@[simp] theorem qAP:XV.lin 78=[70]:=by kernel_rfl
theorem qDj:XV.env.code 78=some v78:=by kernel_rfl
@[simp] theorem qSP:XV.lin 79=[]:=by kernel_rfl
theorem qDi:XV.env.code 79=some v79:=by kernel_rfl
@[simp] theorem qSO:XV.lin 80=[]:=by kernel_rfl
theorem qDh:XV.env.code 80=some v80:=by kernel_rfl
@[simp] theorem qSN:XV.lin 81=[]:=by kernel_rfl
theorem qDg:XV.env.code 81=some v81:=by kernel_rfl
@[simp] theorem qNq:XV.lin 82=[]:=by kernel_rfl
theorem qDf:XV.env.code 82=some v82:=by kernel_rfl
@[simp] theorem qAO:XV.lin 83=[]:=by kernel_rfl
theorem qDe:XV.env.code 83=some v83:=by kernel_rfl
@[simp] theorem qSM:XV.lin 84=[]:=by kernel_rfl
theorem qDd:XV.env.code 84=some v84:=by kernel_rfl
@[simp] theorem qSL:XV.lin 85=[]:=by kernel_rfl
theorem qDc:XV.env.code 85=some v85:=by kernel_rfl
@[simp] theorem qRw:XV.lin 102=[]:=by kernel_rfl
theorem qyB:XV.env.code 102=some qKm:=by kernel_rfl
@[simp] theorem qRv:XV.lin 103=[]:=by kernel_rfl
theorem qyA:XV.env.code 103=some qKl:=by kernel_rfl
@[simp] theorem qRu:XV.lin 104=[2,4,8]:=by kernel_rfl
theorem qyz:XV.env.code 104=some qKk:=by kernel_rfl
@[simp] theorem qRt:XV.lin 105=[8]:=by kernel_rfl
theorem qyy:XV.env.code 105=some qHX:=by kernel_rfl
@[simp] theorem qRs:XV.lin 106=[]:=by kernel_rfl
theorem qKO:XV.env.code 106=some qOD:=by kernel_rfl
@[simp] theorem qRr:XV.lin 107=[2,5,6,7]:=by kernel_rfl
theorem qKN:XV.env.code 107=some qOC:=by kernel_rfl
@[simp] theorem qRq:XV.lin 108=[]:=by kernel_rfl
theorem qKM:XV.env.code 108=some qFH:=by kernel_rfl
@[simp] theorem qRp:XV.lin 110=[2,5]:=by kernel_rfl
theorem qyx:XV.env.code 110=some qKj:=by kernel_rfl
@[simp] theorem qI8:XV.lin 111=[4,12,26,27]:=by kernel_rfl
theorem qyw:XV.env.code 111=some qDV:=by kernel_rfl
@[simp] theorem qI7:XV.lin 112=[4,6,10,11,12,27,31,32,34,35,36,40]:=by kernel_rfl
theorem qyv:XV.env.code 112=some qFG:=by kernel_rfl
@[simp] theorem qRo:XV.lin 117=[]:=by kernel_rfl
theorem qyu:XV.env.code 117=some qyS:=by kernel_rfl
@[simp] theorem qI6:XV.lin 118=[28]:=by kernel_rfl
theorem qyt:XV.env.code 118=some qyR:=by kernel_rfl
@[simp] theorem qRn:XV.lin 133=[]:=by kernel_rfl
theorem qys:XV.env.code 133=some qKi:=by kernel_rfl
@[simp] theorem qRm:XV.lin 134=[2,3,6,10,11,12,14]:=by kernel_rfl
theorem qyr:XV.env.code 134=some qKh:=by kernel_rfl
@[simp] theorem qRl:XV.lin 135=[11]:=by kernel_rfl
theorem qyq:XV.env.code 135=some qKg:=by kernel_rfl
@[simp] theorem qRk:XV.lin 144=[7,10,11,16,18]:=by kernel_rfl
theorem qyp:XV.env.code 144=some qHW:=by kernel_rfl
@[simp] theorem qI5:XV.lin 146=[9,18,24,25,26,28]:=by kernel_rfl
theorem qyo:XV.env.code 146=some qHV:=by kernel_rfl
@[simp] theorem qRj:XV.lin 147=[4]:=by kernel_rfl
theorem qyn:XV.env.code 147=some qKf:=by kernel_rfl
@[simp] theorem qI4:XV.lin 148=[13,19,21]:=by kernel_rfl
theorem qym:XV.env.code 148=some qKe:=by kernel_rfl
@[simp] theorem qRi:XV.lin 149=[4]:=by kernel_rfl
theorem qyl:XV.env.code 149=some qKd:=by kernel_rfl
@[simp] theorem qRh:XV.lin 150=[5,7]:=by kernel_rfl
theorem qyk:XV.env.code 150=some qKc:=by kernel_rfl
@[simp] theorem qI3:XV.lin 151=[2,3,6,12,13,15,16,17,19]:=by kernel_rfl
theorem qyj:XV.env.code 151=some qKb:=by kernel_rfl
@[simp] theorem qAR:XV.lin 153=[13,27,36,41,42,51,52,53,54,63,64,65,67]:=by kernel_rfl
theorem qyi:XV.env.code 153=some qKa:=by kernel_rfl
@[simp] theorem qI2:XV.lin 154=[0,1,4,6,22,25,26,27,28,29,30,31,34,35]:=by kernel_rfl
theorem qyh:XV.env.code 154=some qJ9:=by kernel_rfl
@[simp] theorem qRg:XV.lin 155=[0,8]:=by kernel_rfl
theorem qyg:XV.env.code 155=some qJ8:=by kernel_rfl
@[simp] theorem qI1:XV.lin 156=[28,30]:=by kernel_rfl
theorem qyf:XV.env.code 156=some qJ7:=by kernel_rfl
@[simp] theorem qRf:XV.lin 157=[2,3,5,10,15,16,17,18,26,29]:=by kernel_rfl
theorem qye:XV.env.code 157=some qyQ:=by kernel_rfl
@[simp] theorem qI0:XV.lin 158=[2,3,6,14,21,22,25,26,28,29,30,31,32]:=by kernel_rfl
theorem qyd:XV.env.code 158=some qJ6:=by kernel_rfl
@[simp] theorem qRe:XV.lin 159=[]:=by kernel_rfl
theorem qyc:XV.env.code 159=some qJ5:=by kernel_rfl
@[simp] theorem qRd:XV.lin 160=[]:=by kernel_rfl
theorem qyb:XV.env.code 160=some qJ4:=by kernel_rfl
@[simp] theorem qAQ:XV.lin 161=[7,60,62,64,65,72,73]:=by kernel_rfl
theorem qya:XV.env.code 161=some qJ3:=by kernel_rfl
@[simp] theorem qRc:XV.lin 162=[]:=by kernel_rfl
theorem qx9:XV.env.code 162=some qJ2:=by kernel_rfl
@[simp] theorem qRb:XV.lin 163=[9]:=by kernel_rfl
theorem qx8:XV.env.code 163=some qJ1:=by kernel_rfl
@[simp] theorem qRa:XV.lin 164=[6,7]:=by kernel_rfl
theorem qx7:XV.env.code 164=some v164:=by kernel_rfl
@[simp] theorem qQ9:XV.lin 165=[]:=by kernel_rfl
theorem qx6:XV.env.code 165=some qHT:=by kernel_rfl
@[simp] theorem qls:XV.lin 166=[8,24,28,36,37,40,45,46,47,50]:=by kernel_rfl
theorem qx5:XV.env.code 166=some qJ0:=by kernel_rfl
@[simp] theorem qIZ:XV.lin 168=[5,19,20,27,28,31,32,33,35,37]:=by kernel_rfl
theorem qx4:XV.env.code 168=some qCY:=by kernel_rfl
@[simp] theorem qQ8:XV.lin 170=[]:=by kernel_rfl
theorem qo3:XV.env.code 170=some qFF:=by kernel_rfl
@[simp] theorem qQ7:XV.lin 171=[]:=by kernel_rfl
theorem qo2:XV.env.code 171=some qFE:=by kernel_rfl
@[simp] theorem qQ6:XV.lin 172=[46,50]:=by kernel_rfl
theorem qj5:XV.env.code 172=some qCX:=by kernel_rfl
@[simp] theorem qQ5:XV.lin 173=[70,74,122,126]:=by kernel_rfl
theorem qj4:XV.env.code 173=some qCW:=by kernel_rfl
@[simp] theorem qQ4:XV.lin 174=[]:=by kernel_rfl
theorem qx3:XV.env.code 174=some qJZ:=by kernel_rfl
@[simp] theorem qQ3:XV.lin 175=[29,35]:=by kernel_rfl
theorem qx2:XV.env.code 175=some qJY:=by kernel_rfl
@[simp] theorem qQ2:XV.lin 176=[13,15,17,18,19,21,24,48,52]:=by kernel_rfl
theorem qx1:XV.env.code 176=some qDU:=by kernel_rfl
@[simp] theorem qQ1:XV.lin 177=[2,5,8,10,11,12,13,14,15,16]:=by kernel_rfl
theorem qx0:XV.env.code 177=some qJX:=by kernel_rfl
@[simp] theorem qIX:XV.lin 178=[]:=by kernel_rfl
theorem qxZ:XV.env.code 178=some qDT:=by kernel_rfl
@[simp] theorem qIW:XV.lin 179=[]:=by kernel_rfl
theorem qxY:XV.env.code 179=some qDS:=by kernel_rfl
@[simp] theorem qQ0:XV.lin 180=[2,15,18,24,28,29,30,31]:=by kernel_rfl
theorem qj3:XV.env.code 180=some qCV:=by kernel_rfl
@[simp] theorem qIY:XV.lin 169=[5,8,15,18,30,32,33,34,35,36,37,45,47]:=by kernel_rfl
theorem qxQ:XV.env.code 169=none:=by kernel_rfl
theorem qxJ:XV.env.spec 169=some qps:=by kernel_rfl
theorem qTl(X:XEnv)(T:List Nat)(na:Nat)(live:List Nat)(r:List (Nat×AV))(B:qal):qax X T (yT na live qQi) ⟨r,B⟩=qd1 live (qcC (qad X) X.lin T true B.length [z1 34 2 2,zD 35 1 34 [0],z0 36 5,z5 37 3 35 36 [1,2],zI 38 3 37 [3],z1 39 2 3,zD 40 1 39 [5],z0 41 5,z5 42 3 40 41 [6,7],zI 43 3 42 [8],zF 44 3 38 43 [4,9],zz 45 44 [10]] ⟨r,B++List.replicate na none⟩):=qbk X T na live qQi (by kernel_rfl) r B
theorem qFa(X:XEnv)(T:List Nat)(na:Nat)(live:List Nat)(r:List (Nat×AV))(B:qal):qax X T (yT na live qIs) ⟨r,B⟩=qd1 live (qcC (qad X) X.lin T true B.length [z1 51 2 2,zD 52 1 51 [0],z0 53 7,z5 54 3 52 53 [1,2],zI 55 3 54 [3],z1 56 2 3,zD 57 1 56 [5],z0 58 7,z5 59 3 57 58 [6,7],zI 60 3 59 [8],zF 61 6 55 60 [4,9],zM 8 61 [0,1,2,3,4,5,6,7,8,9,10]] ⟨r,B++List.replicate na none⟩):=qbk X T na live qIs (by kernel_rfl) r B
theorem qlP(X:XEnv)(T:List Nat)(na:Nat)(live:List Nat)(r:List (Nat×AV))(B:qal):qax X T (yT na live qIt) ⟨r,B⟩=qd1 live (qcC (qad X) X.lin T true B.length [z1 14 0 6,zD 15 1 14 [0],⟨some 16,.call true (.c (.fn 30 [])) [.t 15,.c (.d (.int .i64 0)),.c (.d (.int .i64 99))],none,[1]⟩,zz 17 16 [2],zM 18 17 [2,3],zK 19 5 18 [4],z00 20 19 0 18 [4,5],zK 21 20 18 [4,6],zQ 22 1 21 [7],zQ 23 5 21 [7],zr 24 23 1 21 [7,9],zX 25 4 22 24 21 [7,8,10],zJ 26 0 25 21 [7,11],zH 27 1 26 21 [7,12],zJ 28 0 6 21 [7],zH 29 1 28 21 [7,14],⟨some 30,.bin .geq (.t 27) (.t 29),some (21,true),[7,13,15]⟩,zU 31 21 30 18 [4,7,16],zR 32 18 31 [4,17],zM 33 32 [7,18],zK 34 0 33 [19],zS 35 1 6 33 [19],z11 36 3 35 33 [19,21],z0V 37 70 34 36 33 [19,20,22],z0J 38 37 33 [19,23],zR 39 33 38 [19,24]] ⟨r,B++List.replicate na none⟩):=qbk X T na live qIt (by kernel_rfl) r B
theorem qB0(X:XEnv)(T:List Nat)(na:Nat)(live:List Nat)(r:List (Nat×AV))(B:qal):qax X T (yT na live qEv) ⟨r,B⟩=qd1 live (qcC (qad X) X.lin T true B.length [z0 18 0,z1 19 0 3,zD 20 1 19 [1],zF 21 29 18 20 [0,2],zz 22 21 [3],zM 23 22 [3,4],zS 24 1 3 23 [5],zT 25 1 24 23 [5,6],z0R 26 25 0 23 [5,7],zR 27 23 26 [5,8],zM 28 27 [5,9],zK 29 0 28 [10],zS 30 0 3 28 [10],zT 31 1 30 28 [10,12],zi 32 3 29 31 28 [10,11,13],zS 33 2 32 28 [10,14],zT 34 1 33 28 [10,15],z0J 35 34 28 [10,16],zK 36 35 28 [10,17],zJ 37 2 3 36 [18],zH 38 1 37 36 [18,19],z0B 39 38 36 [18,20],zQ 40 0 36 [18],zJ 41 0 3 36 [18],zH 42 1 41 36 [18,23],zX 43 3 40 42 36 [18,22,24],zJ 44 1 43 36 [18,25],zH 45 1 44 36 [18,26],z0r 46 39 45 36 [18,21,27],zU 47 36 46 28 [10,18,28],zR 48 28 47 [10,29],zM 49 48 [18,30],zK 50 0 49 [31],zS 51 0 3 49 [31],zT 52 1 51 49 [31,33],zi 53 3 50 52 49 [31,32,34],zS 54 2 53 49 [31,35],zT 55 1 54 49 [31,36],zK 56 55 49 [31,37],zJ 57 2 3 56 [38],zH 58 1 57 56 [38,39],z0B 59 58 56 [38,40],z01 60 59 2 56 [38,41],zU 61 56 60 49 [31,38,42],zR 62 49 61 [31,43]] ⟨r,B++List.replicate na none⟩):=qbk X T na live qEv (by kernel_rfl) r B
theorem qBZ(X:XEnv)(T:List Nat)(na:Nat)(live:List Nat)(r:List (Nat×AV))(B:qal):qax X T (yT na live qEt) ⟨r,B⟩=qd1 live (qcC (qad X) X.lin T true B.length [z0 71 0,z3 72 3 6,zF 73 78 71 72 [0,1],zz 74 73 [2],zM 75 74 [2,3],zK 76 0 75 [4],zS 77 0 3 75 [4],zT 78 1 77 75 [4,6],zi 79 3 76 78 75 [4,5,7],zS 80 2 79 75 [4,8],zT 81 1 80 75 [4,9],zK 82 81 75 [4,10],zJ 83 0 6 82 [11],zH 84 1 83 82 [11,12],zJ 85 0 3 82 [11],zH 86 1 85 82 [11,14],z0s 87 84 86 82 [11,13,15],zQ 88 87 82 [11,16],zK 89 5 88 [17],z00 90 89 0 88 [17,18],zK 91 90 88 [17,19],zh 92 3 6 91 [20],zJ 93 2 3 91 [20],zH 94 1 93 91 [20,22],zQ 95 5 91 [20],zr 96 95 1 91 [20,24],zX 97 3 94 96 91 [20,23,25],zh 98 3 97 91 [20,26],z04 99 79 92 98 91 [20,21,27],zU 100 91 99 88 [17,20,28],z0N 101 88 100 82 [11,17,29],zU 102 82 101 75 [4,11,30],zR 103 75 102 [4,31]] ⟨r,B++List.replicate na none⟩):=qbk X T na live qEt (by kernel_rfl) r B
theorem qBY(X:XEnv)(T:List Nat)(na:Nat)(live:List Nat)(r:List (Nat×AV))(B:qal):qax X T (yT na live qEq) ⟨r,B⟩=qd1 live (qcC (qad X) X.lin T true B.length [z1 18 0 3,zD 19 1 18 [0],z0 20 0,z0C 21 20 [2],zo 22 21 1 [3],⟨some 23,.call true (.c (.fn 31 [])) [.t 19,.c (.d (.int .i64 0)),.t 22],none,[1,4]⟩,zz 24 23 [5],zM 25 24 [5,6],zS 26 1 3 25 [7],zT 27 1 26 25 [7,8],z0R 28 27 0 25 [7,9],zR 29 25 28 [7,10],zM 30 29 [7,11],zK 31 0 30 [12],zS 32 0 3 30 [12],zT 33 1 32 30 [12,14],zi 34 3 31 33 30 [12,13,15],zS 35 2 34 30 [12,16],zT 36 1 35 30 [12,17],z0J 37 36 30 [12,18],zK 38 37 30 [12,19],zJ 39 2 3 38 [20],zH 40 1 39 38 [20,21],z0B 41 40 38 [20,22],zQ 42 0 38 [20],zJ 43 0 3 38 [20],zH 44 1 43 38 [20,25],zX 45 3 42 44 38 [20,24,26],zJ 46 1 45 38 [20,27],zH 47 1 46 38 [20,28],z0r 48 41 47 38 [20,23,29],zU 49 38 48 30 [12,20,30],zR 50 30 49 [12,31],zM 51 50 [20,32],zK 52 0 51 [33],zS 53 0 3 51 [33],zT 54 1 53 51 [33,35],zi 55 3 52 54 51 [33,34,36],zS 56 2 55 51 [33,37],zT 57 1 56 51 [33,38],zK 58 57 51 [33,39],zJ 59 2 3 58 [40],zH 60 1 59 58 [40,41],z0B 61 60 58 [40,42],z01 62 61 2 58 [40,43],zU 63 58 62 51 [33,40,44],zR 64 51 63 [33,45]] ⟨r,B++List.replicate na none⟩):=qbk X T na live qEq (by kernel_rfl) r B
theorem qqP(X:XEnv)(T:List Nat)(na:Nat)(live:List Nat)(r:List (Nat×AV))(B:qal):qax X T (yT na live qEo) ⟨r,B⟩=qd1 live (qcC (qad X) X.lin T true B.length [z0 72 0,z1 73 0 3,zD 74 1 73 [1],z5 75 3 72 74 [0,2],zc 76 2 75 [3],zD 77 1 76 [4],zM 78 77 [5],zJ 79 2 3 78 [6],zH 80 1 79 78 [6,7],zQ 81 5 78 [6],zX 82 3 80 81 78 [6,8,9],zJ 83 0 82 78 [6,10],zH 84 1 83 78 [6,11],zJ 85 0 3 78 [6],zH 86 1 85 78 [6,13],z0s 87 84 86 78 [6,12,14],zQ 88 87 78 [6,15],zK 89 5 88 [16],z00 90 89 0 88 [16,17],zK 91 90 88 [16,18],zJ 92 2 3 91 [19],zH 93 1 92 91 [19,20],zQ 94 5 91 [19],zX 95 3 93 94 91 [19,21,22],zh 96 3 95 91 [19,23],zJ 97 2 3 91 [19],zH 98 1 97 91 [19,25],zQ 99 5 91 [19],zr 100 99 1 91 [19,27],zX 101 3 98 100 91 [19,26,28],zh 102 3 101 91 [19,29],z04 103 84 96 102 91 [19,24,30],zU 104 91 103 88 [16,19,31],z0N 105 88 104 78 [6,16,32],z05 106 78 105 [6,33],zM 107 106 [31,34],zK 108 0 107 [35],zS 109 2 3 107 [35],zT 110 1 109 107 [35,37],zK 111 5 107 [35],zi 112 3 110 111 107 [35,38,39],z11 113 3 112 107 [35,40],z0V 114 83 108 113 107 [35,36,41],z0J 115 114 107 [35,42],zR 116 107 115 [35,43]] ⟨r,B++List.replicate na none⟩):=qbk X T na live qEo (by kernel_rfl) r B
theorem qjh(X:XEnv)(T:List Nat)(na:Nat)(live:List Nat)(r:List (Nat×AV))(B:qal):qax X T (yT na live qzl) ⟨r,B⟩=qd1 live (qcC (qad X) X.lin T true B.length [z1 47 2 2,zD 48 1 47 [0],z0 49 5,z5 50 3 48 49 [1,2],zI 51 3 50 [3],z1 52 2 3,zD 53 1 52 [5],z0 54 5,z5 55 3 53 54 [6,7],zI 56 3 55 [8],zF 57 3 51 56 [4,9],zz 58 57 [10]] ⟨r,B++List.replicate na none⟩):=qbk X T na live qzl (by kernel_rfl) r B
theorem qjg(X:XEnv)(T:List Nat)(na:Nat)(live:List Nat)(r:List (Nat×AV))(B:qal):qax X T (yT na live qzk) ⟨r,B⟩=qd1 live (qcC (qad X) X.lin T true B.length [z1 59 2 2,zD 60 1 59 [0],z0 61 5,z5 62 3 60 61 [1,2],zI 63 3 62 [3],z1 64 2 3,zD 65 1 64 [5],z0 66 5,z5 67 3 65 66 [6,7],zI 68 3 67 [8],zF 69 84 63 68 [4,9],zM 4 69 [0,1,2,3,4,5,6,7,8,9,10]] ⟨r,B++List.replicate na none⟩):=qbk X T na live qzk (by kernel_rfl) r B
theorem quK(X:XEnv)(T:List Nat)(na:Nat)(live:List Nat)(r:List (Nat×AV))(B:qal):qax X T (yT na live qAp) ⟨r,B⟩=qd1 live (qcC (qad X) X.lin T true B.length [z1 17 2 3,zD 18 1 17 [0],z1 19 2 1,zD 20 1 19 [2],z0 21 4,z5 22 3 20 21 [3,4],zI 23 3 22 [5],z0p 24 146 23 [6],⟨some 25,.buildSlice 3 (.agg [.int .i64 0,.int .i64 0,.sl .nil []]) 1 [(0,.t 24)],none,[7]⟩,⟨some 26,.append 3 40 (.t 18) (.t 25),none,[1,7,8]⟩,zc 27 2 3 [0,1,2,3,4,5,6,7,8,9],zW 1 27 26 [0,1,2,3,4,5,6,7,8,9,10]] ⟨r,B++List.replicate na none⟩):=qbk X T na live qAp (by kernel_rfl) r B
theorem qlQ(X:XEnv)(T:List Nat)(na:Nat)(live:List Nat)(r:List (Nat×AV))(B:qal):qax X T (.regionF true na live qAk) ⟨r,B⟩=qd1 live (xFs (qad X) X.lin T true B.length [
 .one (z1 35 2 5),.one (zD 36 1 35 [0]),.one (z1 37 2 7),
 .el 38 37 39 (.t 8) 40 3 41 [2] [] [3,4] [5],.one ⟨some 42,.call false (.c (.fn 154 [])) [.t 36,.t 41],none,[1,6]⟩,.one (zc 43 2 5 [0,1,2,3,4,5,6,7]),.one (zW 1 43 42 [0,1,2,3,4,5,6,7,8])] ⟨r,B++List.replicate na none⟩):=qHm X T na live qAk (by kernel_rfl) r B
theorem qB6(X:XEnv)(T:List Nat)(na:Nat)(live:List Nat)(r:List (Nat×AV))(B:qal):qax X T (yT na live qAj) ⟨r,B⟩=qd1 live (qcC (qad X) X.lin T true B.length [z0 7 5,z0 8 0,z0C 9 8 [1],z0F 10 7 9 [0,2],zM 11 10 [3],zh 12 3 3 11 [4],zQ 13 0 11 [4],zQ 14 5 11 [4],zX 15 3 13 14 11 [4,6,7],zh 16 3 15 11 [4,8],z04 17 84 12 16 11 [4,5,9],⟨some 18,.not (.t 17),some (11,true),[4,10]⟩,z05 19 11 18 [4,11]] ⟨r,B++List.replicate na none⟩):=qbk X T na live qAj (by kernel_rfl) r B
theorem qB5(X:XEnv)(T:List Nat)(na:Nat)(live:List Nat)(r:List (Nat×AV))(B:qal):qax X T (yT na live qAi) ⟨r,B⟩=qd1 live (qcC (qad X) X.lin T true B.length [z0E 17 155,z0 18 0,⟨some 19,.callS 0 (.c (.fn 159 [])) [.t 18,.c (.d (.int .i64 2))],none,[0,1]⟩,⟨some 20,.bin .add (.c (.d (.int .i64 5))) (.t 19),none,[2]⟩,z0p 21 147 20 [2,3],⟨some 22,.loadS true 3 (.t 5) 0,none,[]⟩,⟨some 23,.buildSlice 3 (.agg [.int .i64 0,.int .i64 0,.sl .nil []]) 2 [(0,.t 21),(1,.t 22)],none,[4,5]⟩,⟨some 24,.call true (.c (.fn 164 [])) [.c (.d (.int .i64 5)),.t 23],none,[4,6]⟩,zF 25 153 17 24 [0,7],zW 3 5 25 [0,1,2,3,4,5,6,7,8]] ⟨r,B++List.replicate na none⟩):=qbk X T na live qAi (by kernel_rfl) r B
theorem qOe(X:XEnv)(T:List Nat)(na:Nat)(live:List Nat)(r:List (Nat×AV))(B:qal):qax X T (yT na live qpO) ⟨r,B⟩=qd1 live (qcC (qad X) X.lin T true B.length [z0 25 4,zp 26 25 [0],zc 27 2 26 [1],z16 28 1 27 0 [2],z0 29 0,z0 30 4,zp 31 30 [5],zc 32 2 31 [6],zD 33 1 32 [7],z0C 34 33 [8],⟨some 35,.callS 0 (.c (.fn 159 [])) [.t 29,.t 34],none,[4,9]⟩,z5 36 3 28 35 [3,10],zM 4 36 [0,1,2,3,4,5,6,7,8,9,10,11]] ⟨r,B++List.replicate na none⟩):=qbk X T na live qpO (by kernel_rfl) r B
theorem qJz(X:XEnv)(T:List Nat)(na:Nat)(live:List Nat)(r:List (Nat×AV))(B:qal):qax X T (.regionT na live qoh qgG) ⟨r,B⟩=xTl (qad X) X.lin T B.length live [⟨some 65,.append1 3 40 (.t 60) (.t 64) (.t 63) (.t 62) 66,none,[]⟩,z0K 67 57,z1 68 2 67,z8 1 68 65] (qcC (qad X) X.lin T true B.length [z0 57 4,zp 58 57 [0],zc 59 2 58 [1],z16 60 1 59 0 [2],z0 61 0,⟨some 62,.callS 0 (.c (.fn 166 [])) [.t 61,.c (.d (.int .i64 1)),.c (.d (.int .i64 2))],none,[4]⟩,z0C 63 60 [3],z0H 64 3 0 0 1 0 0 0] ⟨r,B++List.replicate na none⟩):=qxC X T na live qoh qgG (by kernel_rfl) r B
theorem qG8(X:XEnv)(T:List Nat)(na:Nat)(live:List Nat)(r:List (Nat×AV))(B:qal):qax X T (yT na live qAa) ⟨r,B⟩=qd1 live (qcC (qad X) X.lin T true B.length [z0 13 0,zp 14 13 [0],zc 15 2 14 [1],zD 16 1 15 [2],z0c 17 16 33 [3],z0 18 0,zp 19 18 [5],zc 20 2 19 [6],zD 21 1 20 [7],z0c 22 21 45 [8],⟨some 23,.bin .xor (.t 17) (.t 22),none,[4,9]⟩,z0d 24 23 255 [10],zM 3 24 [0,1,2,3,4,5,6,7,8,9,10,11]] ⟨r,B++List.replicate na none⟩):=qbk X T na live qAa (by kernel_rfl) r B
theorem qG7(X:XEnv)(T:List Nat)(na:Nat)(live:List Nat)(r:List (Nat×AV))(B:qal):qax X T (yT na live qz9) ⟨r,B⟩=qd1 live (qcC (qad X) X.lin T true B.length [z0 25 0,zp 26 25 [0],zc 27 1 26 [1],zD 28 1 27 [2],z0 29 0,zp 30 29 [4],zc 31 0 30 [5],zD 32 1 31 [6],z0C 33 32 [7],z0F 34 28 33 [3,8]] ⟨r,B++List.replicate na none⟩):=qbk X T na live qz9 (by kernel_rfl) r B
theorem qG6(X:XEnv)(T:List Nat)(na:Nat)(live:List Nat)(r:List (Nat×AV))(B:qal):qax X T (yT na live qz8) ⟨r,B⟩=qd1 live (qcC (qad X) X.lin T true B.length [z0 35 3,z0 36 0,zp 37 36 [1],zc 38 0 37 [2],zD 39 1 38 [3],z0 40 0,zp 41 40 [5],zc 42 1 41 [6],zD 43 1 42 [7],z5 44 1 39 43 [4,8],zD 45 1 44 [9],⟨some 46,.conv (.kind .i64) (.t 45),none,[10]⟩,z02 47 35 46 [0,11],z0d 48 47 255 [12],zM 3 48 [0,1,2,3,4,5,6,7,8,9,10,11,12,13]] ⟨r,B++List.replicate na none⟩):=qbk X T na live qz8 (by kernel_rfl) r B
theorem qG5(X:XEnv)(T:List Nat)(na:Nat)(live:List Nat)(r:List (Nat×AV))(B:qal):qax X T (yT na live qtD) ⟨r,B⟩=qd1 live (qcC (qad X) X.lin T true B.length [z0 18 9,z0 19 1,⟨some 20,.bin .gtr (.t 18) (.t 19),none,[0,1]⟩,zM 21 20 [2],zQ 22 3 21 [3],zQ 23 0 21 [3],zQ 24 9 21 [3],zX 25 3 23 24 21 [3,5,6],zh 26 3 25 21 [3,7],zQ 27 0 21 [3],zQ 28 9 21 [3],zr 29 28 1 21 [3,10],zX 30 3 27 29 21 [3,9,11],zh 31 3 30 21 [3,12],⟨some 32,.call false (.t 22) [.t 26,.t 31],some (21,true),[3,4,8,13]⟩,z01 33 32 0 21 [3,14],z05 34 21 33 [3,15]] ⟨r,B++List.replicate na none⟩):=qbk X T na live qtD (by kernel_rfl) r B
theorem qG4(X:XEnv)(T:List Nat)(na:Nat)(live:List Nat)(r:List (Nat×AV))(B:qal):qax X T (yT na live qtC) ⟨r,B⟩=qd1 live (qcC (qad X) X.lin T true B.length [z0 37 0,z0 38 9,z0 39 0,z0 40 9,zo 41 40 1 [3],z0 42 0,z0 43 9,zo 44 43 1 [6],z5 45 3 42 44 [5,7],zI 46 3 45 [8],z0 47 0,z0 48 9,z5 49 3 47 48 [10,11],zI 50 3 49 [12],z5 51 3 37 38 [0,1,5,6,7,8,9,13],zW 3 51 46 [0,1,5,6,7,8,9,13,14],z5 52 3 39 41 [0,1,2,3,4,5,6,7,8,9,10,11,12,13,14,15],zW 3 52 50 [0,1,2,3,4,5,6,7,8,9,10,11,12,13,14,15,16]] ⟨r,B++List.replicate na none⟩):=qbk X T na live qtC (by kernel_rfl) r B
theorem qOd(X:XEnv)(T:List Nat)(na:Nat)(live:List Nat)(r:List (Nat×AV))(B:qal):qax X T (yT na live qtA) ⟨r,B⟩=qd1 live (qcC (qad X) X.lin T true B.length [z0 40 4,z0 41 0,z0 42 12,z5 43 3 41 42 [1,2],zI 44 3 43 [3],z0 45 0,z0 46 1,z5 47 3 45 46 [5,6],zI 48 3 47 [7],z0T 49 40 44 48 [0,4,8],z08 50 49 0 [9]] ⟨r,B++List.replicate na none⟩):=qbk X T na live qtA (by kernel_rfl) r B
theorem qJy(X:XEnv)(T:List Nat)(na:Nat)(live:List Nat)(r:List (Nat×AV))(B:qal):qax X T (yT na live qoe) ⟨r,B⟩=qd1 live (qcC (qad X) X.lin T true B.length [z0 61 0,z0 62 13,z0 63 0,z0 64 13,z0e 65 64 1 [3],z0 66 0,z0 67 13,z0e 68 67 1 [6],z5 69 3 66 68 [5,7],zI 70 3 69 [8],z0 71 0,z0 72 13,z5 73 3 71 72 [10,11],zI 74 3 73 [12],z5 75 3 61 62 [0,1,5,6,7,8,9,13],zW 3 75 70 [0,1,5,6,7,8,9,13,14],z5 76 3 63 65 [0,1,2,3,4,5,6,7,8,9,10,11,12,13,14,15],zW 3 76 74 [0,1,2,3,4,5,6,7,8,9,10,11,12,13,14,15,16]] ⟨r,B++List.replicate na none⟩):=qbk X T na live qoe (by kernel_rfl) r B
theorem qB4(X:XEnv)(T:List Nat)(na:Nat)(live:List Nat)(r:List (Nat×AV))(B:qal):qax X T (yT na live qob) ⟨r,B⟩=qd1 live (qcC (qad X) X.lin T true B.length [z0 92 4,z0 93 0,z0 94 2,z5 95 3 93 94 [1,2],zI 96 3 95 [3],z0 97 0,z0 98 16,z5 99 3 97 98 [5,6],zI 100 3 99 [7],z0T 101 92 96 100 [0,4,8],z08 102 101 0 [9],zz 103 102 [10]] ⟨r,B++List.replicate na none⟩):=qbk X T na live qob (by kernel_rfl) r B
theorem qJx(X:XEnv)(T:List Nat)(na:Nat)(live:List Nat)(r:List (Nat×AV))(B:qal):qax X T (yT na live qoa) ⟨r,B⟩=qd1 live (qcC (qad X) X.lin T true B.length [z0 113 0,z0 114 17,z0 115 0,z0 116 17,zo 117 116 1 [3],z0 118 0,z0 119 17,zo 120 119 1 [6],z5 121 3 118 120 [5,7],zI 122 3 121 [8],z0 123 0,z0 124 17,z5 125 3 123 124 [10,11],zI 126 3 125 [12],z5 127 3 113 114 [0,1,5,6,7,8,9,13],zW 3 127 122 [0,1,5,6,7,8,9,13,14],z5 128 3 115 117 [0,1,2,3,4,5,6,7,8,9,10,11,12,13,14,15],zW 3 128 126 [0,1,2,3,4,5,6,7,8,9,10,11,12,13,14,15,16]] ⟨r,B++List.replicate na none⟩):=qbk X T na live qoa (by kernel_rfl) r B
theorem qB3(X:XEnv)(T:List Nat)(na:Nat)(live:List Nat)(r:List (Nat×AV))(B:qal):qax X T (yT na live qn8) ⟨r,B⟩=qd1 live (qcC (qad X) X.lin T true B.length [z0 158 4,z0 159 0,z0 160 22,z0 161 23,⟨some 162,.bin .sub (.t 160) (.t 161),none,[2,3]⟩,z5 163 3 159 162 [1,4],zI 164 3 163 [5],z0 165 0,z0 166 23,z5 167 3 165 166 [7,8],zI 168 3 167 [9],z0T 169 158 164 168 [0,6,10],z08 170 169 0 [11],zz 171 170 [12]] ⟨r,B++List.replicate na none⟩):=qbk X T na live qn8 (by kernel_rfl) r B
theorem qOc(X:XEnv)(T:List Nat)(na:Nat)(live:List Nat)(r:List (Nat×AV))(B:qal):qax X T (yT na live qtv) ⟨r,B⟩=qd1 live (qcC (qad X) X.lin T true B.length [z0 16 0,z0 17 1,z0 18 10,z02 19 17 18 [1,2],z0 20 0,z0 21 2,z0 22 10,z02 23 21 22 [5,6],z0 24 0,z0 25 2,z0 26 10,z02 27 25 26 [9,10],z5 28 3 24 27 [8,11],zI 29 3 28 [12],z0 30 0,z0 31 1,z0 32 10,z02 33 31 32 [15,16],z5 34 3 30 33 [14,17],zI 35 3 34 [18],z5 36 3 16 19 [0,1,2,3,8,9,10,11,12,13,19],zW 3 36 29 [0,1,2,3,8,9,10,11,12,13,19,20],z5 37 3 20 23 [0,1,2,3,4,5,6,7,8,9,10,11,12,13,14,15,16,17,18,19,20,21],zW 3 37 35 [0,1,2,3,4,5,6,7,8,9,10,11,12,13,14,15,16,17,18,19,20,21,22]] ⟨r,B++List.replicate na none⟩):=qbk X T na live qtv (by kernel_rfl) r B
theorem quJ(X:XEnv)(T:List Nat)(na:Nat)(live:List Nat)(r:List (Nat×AV))(B:qal):qax X T (yT na live qzy) ⟨r,B⟩=qd1 live (qcC (qad X) X.lin T true B.length [z0 36 3,z3 37 3 4,z3 38 3 5,zx 39 178 36 37 38 [0,1,2],z0 40 3,z3 41 3 4,z3 42 3 5,zx 43 179 40 41 42 [3,4,5,6],⟨some 44,.eqB false (.t 39) (.t 43),none,[3,7]⟩,zM 2 44 [0,1,2,3,4,5,6,7,8]] ⟨r,B++List.replicate na none⟩):=qbk X T na live qzy (by kernel_rfl) r B
theorem quI(X:XEnv)(T:List Nat)(na:Nat)(live:List Nat)(r:List (Nat×AV))(B:qal):qax X T (yT na live qzx) ⟨r,B⟩=qd1 live (qcC (qad X) X.lin T true B.length [z0 45 3,z0 46 7,z3 47 3 4,zx 48 135 45 46 47 [0,1,2],z0 49 3,z0 50 7,z3 51 3 5,zx 52 135 49 50 51 [3,4,5,6],z9 9 0 0 0,z9 10 1 0 0,z12 3 9 48 [0,1,2,3,7,8,9],z12 3 10 52 [0,1,2,3,4,5,6,7,8,9,10]] ⟨r,B++List.replicate na none⟩):=qbk X T na live qzx (by kernel_rfl) r B
theorem qOb(X:XEnv)(T:List Nat)(na:Nat)(live:List Nat)(r:List (Nat×AV))(B:qal):qax X T (yT na live qzw) ⟨r,B⟩=qd1 live (qcC (qad X) X.lin T true B.length [z0 14 5,z3 15 3 6,z3 16 3 7,zM 2 14 [0],z13 3 3 15 7 [0,1,3],zW 3 4 16 [0,1,2,3,4]] ⟨r,B++List.replicate na none⟩):=qbk X T na live qzw (by kernel_rfl) r B
theorem qB2(X:XEnv)(T:List Nat)(na:Nat)(live:List Nat)(r:List (Nat×AV))(B:qal):qax X T (yT na live qzv) ⟨r,B⟩=qd1 live (qcC (qad X) X.lin T true B.length [z3 28 3 4,z0 29 8,zF 30 73 28 29 [0,1],z3 31 3 5,z0 32 8,zF 33 73 31 32 [2,3,4],z0F 34 30 33 [2,5]] ⟨r,B++List.replicate na none⟩):=qbk X T na live qzv (by kernel_rfl) r B
theorem quH(X:XEnv)(T:List Nat)(na:Nat)(live:List Nat)(r:List (Nat×AV))(B:qal):qax X T (yT na live qzu) ⟨r,B⟩=qd1 live (qcC (qad X) X.lin T true B.length [z0 36 0,z3 37 3 4,zF 38 118 36 37 [0,1],z0 39 0,z3 40 3 5,zF 41 118 39 40 [2,3,4],zM 9 38 [0,1,2,5],zM 10 41 [0,1,2,3,4,5,6]] ⟨r,B++List.replicate na none⟩):=qbk X T na live qzu (by kernel_rfl) r B
theorem qB1(X:XEnv)(T:List Nat)(na:Nat)(live:List Nat)(r:List (Nat×AV))(B:qal):qax X T (yT na live qzt) ⟨r,B⟩=qd1 live (qcC (qad X) X.lin T true B.length [z3 29 3 4,z0 30 7,z0 31 8,z5 32 1 30 31 [1,2],zD 33 1 32 [3],zF 34 81 29 33 [0,4],z3 35 3 5,z0 36 7,z0 37 8,z5 38 1 36 37 [7,8],zD 39 1 38 [9],zF 40 81 35 39 [5,6,10],z0F 41 34 40 [5,11]] ⟨r,B++List.replicate na none⟩):=qbk X T na live qzt (by kernel_rfl) r B
theorem quG(X:XEnv)(T:List Nat)(na:Nat)(live:List Nat)(r:List (Nat×AV))(B:qal):qax X T (yT na live qzs) ⟨r,B⟩=qd1 live (qcC (qad X) X.lin T true B.length [z0 42 0,z3 43 3 4,zF 44 117 42 43 [0,1],z0 45 0,z3 46 3 5,zF 47 117 45 46 [2,3,4],zM 9 44 [0,1,2,5],zM 10 47 [0,1,2,3,4,5,6]] ⟨r,B++List.replicate na none⟩):=qbk X T na live qzs (by kernel_rfl) r B
theorem qsA(X:XEnv)(T:List Nat)(na:Nat)(live:List Nat)(r:List (Nat×AV))(B:qal):qax X T (yT na live qrT) ⟨r,B⟩=qd1 live (qcC (qad X) X.lin T true B.length [z0E 29 155,z3 30 3 7,z3 31 3 8,zM 2 29 [0],z13 3 3 30 8 [0,1,3],zW 3 4 31 [0,1,2,3,4]] ⟨r,B++List.replicate na none⟩):=qbk X T na live qrT (by kernel_rfl) r B
theorem qsg:∀{l:List (Nat×VFn)} {k:Nat} {v:VFn},look l k=some v->(k,v)∈l
 | [],_,_,h=>by simp[look]at h
 |(a,u)::r,k,v,h=>by
  simp only[look]at h;split at h
  ·rename_i hk
   simp at h;subst h;subst hk;simp
  ·exact List.mem_cons_of_mem _ (qsg h)
theorem qAN:qw2.all (fun q=>q.2.linOK (qoq qGQ q.1))=true:=by kernel_rfl
theorem qSB:XOK XW:=⟨fun f vf h=>List.all_eq_true.1 qAN (f,vf) (qsg h),fun f g h=>by exact absurd h (by simp[XW]),fun f h=>rfl,fun f sf h=>by exact absurd h (by simp[XW])⟩
theorem qD8:qH4.all (fun q=>q.2.pre.linOK (qoq qGQ q.1)&&q.2.rest.linOK (qoq qGQ q.1)&&qat (qoq qGQ q.1) (q.2.results.flatMap VRes.vx)&&(qoq qGQ q.1).all (fun j=>decide (q.2.np<=j)))=true:=by kernel_rfl
theorem qt9:∀q,q∈qEK->qCQ q.2 (qxz q.2)/\qoq qGQ q.1=[]:=List.forall_mem_cons.2 ⟨⟨qwu,by kernel_rfl⟩,List.forall_mem_nil _⟩
theorem xok:XOK XV:=⟨fun f vf h=>List.all_eq_true.1 qAN (f,vf) (qsg h),fun f g h=>⟨qxz g,by show(qlr qEK f).map qxz=_;rw[show qlr qEK f=some g from h];rfl,(qt9 (f,g) (qha h)).1,(qt9 (f,g) (qha h)).2⟩,fun f h=>by show(qlr qEK f).map qxz=_;rw[show qlr qEK f=none from h];rfl,fun f sf h=>by
 have:=List.all_eq_true.1 qD8 (f,sf) (qlq h);simp only[Bool.and_eq_true]at this;exact⟨this.1.1.1,this.1.1.2,this.1.2,this.2⟩⟩
end Go.Proofs.Ytfiakfiocdfpbaa.VS
