/- Which registers of each function may own rows; the functions for the evaluator without names. -/
import Derived.Test.YtfiakfiocdfpbaaNat2
import Derived.Test.YtfiakfiocdfpbaaCode
import Derived.KernelRfl
set_option linter.unusedVariables false
namespace Go.Proofs.Ytfiakfiocdfpbaa.VS
def qCg:List (Nat×List Nat):=[(25,[15]),(78,[70]),(118,[28]),(147,[4]),(153,[13,27,36,41,42,51,52,53,54,63,64,65,67]),(154,[0,1,4,6,22,25,26,27,28,29,30,31,34,35]),(155,[0,8]),(156,[28,30]),(161,[7,60,62,64,65,72,73]),(163,[9]),(164,[6,7]),(166,[8,24,28,36,37,40,45,46,47,50]),(169,[5,8,15,18,30,32,33,34,35,36,37,45,47]),(172,[46,50]),(173,[70,74,122,126]),(175,[29,35]),(194,[2,9,13,14,15,16]),(195,[2,3,4,40,46,47,48]),(366,[9,11,13,14,16,18]),(367,[2,4,6,8,9,10,11,12]),(368,[2,4,6,8,9,10,11,12])]
def qne:List (Nat×List Nat)->Nat->List Nat
 | [],_=>[]
 |(k,v)::r,n=>if n=k then v else qne r n
noncomputable def XV:XEnv:=⟨E,qne qCg,qjt qyv⟩
@[simp] theorem qKL:XV.lin 3=[]:=by kernel_rfl
theorem qA6:XV.env.code 3=some v3:=by kernel_rfl
@[simp] theorem qKK:XV.lin 4=[]:=by kernel_rfl
theorem qA5:XV.env.code 4=some v4:=by kernel_rfl
@[simp] theorem qKJ:XV.lin 6=[]:=by kernel_rfl
theorem qsV:XV.env.code 6=some v6:=by kernel_rfl
@[simp] theorem qKg:XV.lin 13=[]:=by kernel_rfl
theorem qxD:XV.env.code 13=some v13:=by kernel_rfl
@[simp] theorem qKf:XV.lin 14=[]:=by kernel_rfl
theorem qxC:XV.env.code 14=some v14:=by kernel_rfl
@[simp] theorem qKe:XV.lin 18=[]:=by kernel_rfl
theorem qxB:XV.env.code 18=some v18:=by kernel_rfl
@[simp] theorem qFL:XV.lin 19=[]:=by kernel_rfl
theorem qxA:XV.env.code 19=some v19:=by kernel_rfl
@[simp] theorem qKd:XV.lin 22=[]:=by kernel_rfl
theorem qxz:XV.env.code 22=some v22:=by kernel_rfl
@[simp] theorem qKc:XV.lin 23=[]:=by kernel_rfl
theorem qxy:XV.env.code 23=some v23:=by kernel_rfl
@[simp] theorem qKb:XV.lin 24=[]:=by kernel_rfl
theorem qxx:XV.env.code 24=some v24:=by kernel_rfl
@[simp] theorem qFK:XV.lin 25=[15]:=by kernel_rfl
theorem qxw:XV.env.code 25=some v25:=by kernel_rfl
@[simp] theorem qKa:XV.lin 29=[]:=by kernel_rfl
theorem qxv:XV.env.code 29=some v29:=by kernel_rfl
@[simp] theorem qJ9:XV.lin 30=[]:=by kernel_rfl
theorem qxu:XV.env.code 30=some v30:=by kernel_rfl
@[simp] theorem qJ8:XV.lin 31=[]:=by kernel_rfl
theorem qxt:XV.env.code 31=some v31:=by kernel_rfl
@[simp] theorem qJ7:XV.lin 33=[]:=by kernel_rfl
theorem qxs:XV.env.code 33=some v33:=by kernel_rfl
@[simp] theorem qJ6:XV.lin 34=[]:=by kernel_rfl
theorem qxr:XV.env.code 34=some v34:=by kernel_rfl
@[simp] theorem qJ5:XV.lin 59=[]:=by kernel_rfl
theorem qxq:XV.env.code 59=some v59:=by kernel_rfl
@[simp] theorem qJ4:XV.lin 60=[]:=by kernel_rfl
theorem qxp:XV.env.code 60=some v60:=by kernel_rfl
@[simp] theorem qJ3:XV.lin 61=[]:=by kernel_rfl
theorem qxo:XV.env.code 61=some v61:=by kernel_rfl
@[simp] theorem qJ2:XV.lin 62=[]:=by kernel_rfl
theorem qxn:XV.env.code 62=some v62:=by kernel_rfl
@[simp] theorem qJ1:XV.lin 70=[]:=by kernel_rfl
theorem qxm:XV.env.code 70=some v70:=by kernel_rfl
@[simp] theorem qJ0:XV.lin 75=[]:=by kernel_rfl
theorem qxl:XV.env.code 75=some v75:=by kernel_rfl
@[simp] theorem qFJ:XV.lin 77=[]:=by kernel_rfl
theorem qxk:XV.env.code 77=some v77:=by kernel_rfl
@[simp] theorem qvc:XV.lin 78=[70]:=by kernel_rfl
theorem qxj:XV.env.code 78=some v78:=by kernel_rfl
@[simp] theorem qJZ:XV.lin 79=[]:=by kernel_rfl
theorem qxi:XV.env.code 79=some v79:=by kernel_rfl
@[simp] theorem qJY:XV.lin 80=[]:=by kernel_rfl
theorem qxh:XV.env.code 80=some v80:=by kernel_rfl
@[simp] theorem qFI:XV.lin 82=[]:=by kernel_rfl
theorem qxg:XV.env.code 82=some v82:=by kernel_rfl
@[simp] theorem qvb:XV.lin 83=[]:=by kernel_rfl
theorem qxf:XV.env.code 83=some v83:=by kernel_rfl
@[simp] theorem qJX:XV.lin 84=[]:=by kernel_rfl
theorem qxe:XV.env.code 84=some v84:=by kernel_rfl
@[simp] theorem qIT:XV.lin 117=[]:=by kernel_rfl
theorem qti:XV.env.code 117=some qtw:=by kernel_rfl
@[simp] theorem qCm:XV.lin 118=[28]:=by kernel_rfl
theorem qth:XV.env.code 118=some qtv:=by kernel_rfl
@[simp] theorem qIS:XV.lin 133=[]:=by kernel_rfl
theorem qtg:XV.env.code 133=some qDs:=by kernel_rfl
@[simp] theorem qIR:XV.lin 147=[4]:=by kernel_rfl
theorem qtf:XV.env.code 147=some qDr:=by kernel_rfl
@[simp] theorem qve:XV.lin 153=[13,27,36,41,42,51,52,53,54,63,64,65,67]:=by kernel_rfl
theorem qte:XV.env.code 153=some qDq:=by kernel_rfl
@[simp] theorem qCl:XV.lin 154=[0,1,4,6,22,25,26,27,28,29,30,31,34,35]:=by kernel_rfl
theorem qtd:XV.env.code 154=some qDp:=by kernel_rfl
@[simp] theorem qIQ:XV.lin 155=[0,8]:=by kernel_rfl
theorem qtc:XV.env.code 155=some qDo:=by kernel_rfl
@[simp] theorem qCk:XV.lin 156=[28,30]:=by kernel_rfl
theorem qtb:XV.env.code 156=some qDn:=by kernel_rfl
@[simp] theorem qIP:XV.lin 159=[]:=by kernel_rfl
theorem qta:XV.env.code 159=some qDm:=by kernel_rfl
@[simp] theorem qIO:XV.lin 160=[]:=by kernel_rfl
theorem qs9:XV.env.code 160=some qDl:=by kernel_rfl
@[simp] theorem qvd:XV.lin 161=[7,60,62,64,65,72,73]:=by kernel_rfl
theorem qs8:XV.env.code 161=some qDk:=by kernel_rfl
@[simp] theorem qIN:XV.lin 162=[]:=by kernel_rfl
theorem qs7:XV.env.code 162=some qDj:=by kernel_rfl
@[simp] theorem qIM:XV.lin 163=[9]:=by kernel_rfl
theorem qs6:XV.env.code 163=some qDi:=by kernel_rfl
@[simp] theorem qIL:XV.lin 164=[6,7]:=by kernel_rfl
theorem qs5:XV.env.code 164=some qDh:=by kernel_rfl
@[simp] theorem qIK:XV.lin 165=[]:=by kernel_rfl
theorem qs4:XV.env.code 165=some qBo:=by kernel_rfl
@[simp] theorem qju:XV.lin 166=[8,24,28,36,37,40,45,46,47,50]:=by kernel_rfl
theorem qs3:XV.env.code 166=some qDg:=by kernel_rfl
@[simp] theorem qIJ:XV.lin 170=[]:=by kernel_rfl
theorem qmr:XV.env.code 170=some qzv:=by kernel_rfl
@[simp] theorem qII:XV.lin 171=[]:=by kernel_rfl
theorem qmq:XV.env.code 171=some qzu:=by kernel_rfl
@[simp] theorem qIH:XV.lin 172=[46,50]:=by kernel_rfl
theorem qiD:XV.env.code 172=some qw0:=by kernel_rfl
@[simp] theorem qIG:XV.lin 173=[70,74,122,126]:=by kernel_rfl
theorem qiC:XV.env.code 173=some qwZ:=by kernel_rfl
@[simp] theorem qIF:XV.lin 174=[]:=by kernel_rfl
theorem qs2:XV.env.code 174=some qDf:=by kernel_rfl
@[simp] theorem qIE:XV.lin 175=[29,35]:=by kernel_rfl
theorem qs1:XV.env.code 175=some qDe:=by kernel_rfl
@[simp] theorem qID:XV.lin 194=[2,9,13,14,15,16]:=by kernel_rfl
theorem qmp:XV.env.code 194=some qzt:=by kernel_rfl
@[simp] theorem qIC:XV.lin 195=[2,3,4,40,46,47,48]:=by kernel_rfl
theorem qs0:XV.env.code 195=some qsw:=by kernel_rfl
@[simp] theorem qIB:XV.lin 196=[]:=by kernel_rfl
theorem qsZ:XV.env.code 196=some qDd:=by kernel_rfl
@[simp] theorem qIA:XV.lin 366=[9,11,13,14,16,18]:=by kernel_rfl
theorem qsY:XV.env.code 366=some qzs:=by kernel_rfl
@[simp] theorem qIz:XV.lin 367=[2,4,6,8,9,10,11,12]:=by kernel_rfl
theorem qsX:XV.env.code 367=some qDc:=by kernel_rfl
@[simp] theorem qIy:XV.lin 368=[2,4,6,8,9,10,11,12]:=by kernel_rfl
theorem qsW:XV.env.code 368=some qDb:=by kernel_rfl
@[simp] theorem qCj:XV.lin 169=[5,8,15,18,30,32,33,34,35,36,37,45,47]:=by kernel_rfl
theorem qsO:XV.env.code 169=none:=by kernel_rfl
theorem qsH:XV.env.spec 169=some qmI:=by kernel_rfl
theorem qKm(X:XEnv)(T:List Nat)(na:Nat)(live:List Nat)(r:List (Nat×AV))(B:qak):qau X T (.region true na live qH4) ⟨r,B⟩=qd2 live (qcy (qad X) X.lin T true B.length [
 ⟨some 34,.fieldAddr 2 (.t 2),none,[]⟩,
 ⟨some 35,.load false 1 (.t 34),none,[0]⟩,
 ⟨some 36,.move (.t 5),none,[]⟩,
 ⟨some 37,.indexAddr 3 none (.t 35) (.t 36),none,[1,2]⟩,
 ⟨some 38,.load true 3 (.t 37),none,[3]⟩,
 ⟨some 39,.fieldAddr 2 (.t 3),none,[]⟩,
 ⟨some 40,.load false 1 (.t 39),none,[5]⟩,
 ⟨some 41,.move (.t 5),none,[]⟩,
 ⟨some 42,.indexAddr 3 none (.t 40) (.t 41),none,[6,7]⟩,
 ⟨some 43,.load true 3 (.t 42),none,[8]⟩,
 ⟨some 44,.call true (.c (.fn 3 [])) [.t 38,.t 43],none,[4,9]⟩,
 ⟨some 45,.not (.t 44),none,[10]⟩] ⟨r,B++List.replicate na none⟩):=qby X T na live qH4 (by kernel_rfl) r B
theorem qyV(X:XEnv)(T:List Nat)(na:Nat)(live:List Nat)(r:List (Nat×AV))(B:qak):qau X T (.region true na live qBR) ⟨r,B⟩=qd2 live (qcy (qad X) X.lin T true B.length [
 ⟨some 51,.fieldAddr 2 (.t 2),none,[]⟩,
 ⟨some 52,.load false 1 (.t 51),none,[0]⟩,
 ⟨some 53,.move (.t 7),none,[]⟩,
 ⟨some 54,.indexAddr 3 none (.t 52) (.t 53),none,[1,2]⟩,
 ⟨some 55,.load true 3 (.t 54),none,[3]⟩,
 ⟨some 56,.fieldAddr 2 (.t 3),none,[]⟩,
 ⟨some 57,.load false 1 (.t 56),none,[5]⟩,
 ⟨some 58,.move (.t 7),none,[]⟩,
 ⟨some 59,.indexAddr 3 none (.t 57) (.t 58),none,[6,7]⟩,
 ⟨some 60,.load true 3 (.t 59),none,[8]⟩,
 ⟨some 61,.call true (.c (.fn 6 [])) [.t 55,.t 60],none,[4,9]⟩,
 ⟨some 8,.move (.t 61),none,[0,1,2,3,4,5,6,7,8,9,10]⟩] ⟨r,B++List.replicate na none⟩):=qby X T na live qBR (by kernel_rfl) r B
theorem qwg(X:XEnv)(T:List Nat)(na:Nat)(live:List Nat)(r:List (Nat×AV))(B:qak):qau X T (.region true na live qyj) ⟨r,B⟩=qd2 live (qcy (qad X) X.lin T true B.length [
 ⟨some 18,.move (.t 0),none,[]⟩,
 ⟨some 19,.fieldAddr 0 (.t 3),none,[]⟩,
 ⟨some 20,.load false 1 (.t 19),none,[1]⟩,
 ⟨some 21,.call true (.c (.fn 29 [])) [.t 18,.t 20],none,[0,2]⟩,
 ⟨some 22,.not (.t 21),none,[3]⟩,
 ⟨some 23,.move (.t 22),none,[3,4]⟩,
 ⟨some 24,.fieldAddr 1 (.t 3),some (23,false),[5]⟩,
 ⟨some 25,.load false 1 (.t 24),some (23,false),[5,6]⟩,
 ⟨some 26,.bin .neq (.t 25) (.c (.d (.int .i64 0))),some (23,false),[5,7]⟩,
 ⟨some 27,.pick (.t 23) (.c (.d (.bool true))) (.t 26),none,[5,8]⟩,
 ⟨some 28,.move (.t 27),none,[5,9]⟩,
 ⟨some 29,.move (.t 0),some (28,false),[10]⟩,
 ⟨some 30,.fieldAddr 0 (.t 3),some (28,false),[10]⟩,
 ⟨some 31,.load false 1 (.t 30),some (28,false),[10,12]⟩,
 ⟨some 32,.indexAddr 3 none (.t 29) (.t 31),some (28,false),[10,11,13]⟩,
 ⟨some 33,.fieldAddr 2 (.t 32),some (28,false),[10,14]⟩,
 ⟨some 34,.load false 1 (.t 33),some (28,false),[10,15]⟩,
 ⟨some 35,.not (.t 34),some (28,false),[10,16]⟩,
 ⟨some 36,.move (.t 35),some (28,false),[10,17]⟩,
 ⟨some 37,.fieldAddr 2 (.t 3),some (36,true),[18]⟩,
 ⟨some 38,.load false 1 (.t 37),some (36,true),[18,19]⟩,
 ⟨some 39,.len false (.t 38),some (36,true),[18,20]⟩,
 ⟨some 40,.move (.t 0),some (36,true),[18]⟩,
 ⟨some 41,.fieldAddr 0 (.t 3),some (36,true),[18]⟩,
 ⟨some 42,.load false 1 (.t 41),some (36,true),[18,23]⟩,
 ⟨some 43,.indexAddr 3 none (.t 40) (.t 42),some (36,true),[18,22,24]⟩,
 ⟨some 44,.fieldAddr 1 (.t 43),some (36,true),[18,25]⟩,
 ⟨some 45,.load false 1 (.t 44),some (36,true),[18,26]⟩,
 ⟨some 46,.bin .neq (.t 39) (.t 45),some (36,true),[18,21,27]⟩,
 ⟨some 47,.pick (.t 36) (.t 46) (.c (.d (.bool false))),some (28,false),[10,18,28]⟩,
 ⟨some 48,.pick (.t 28) (.c (.d (.bool true))) (.t 47),none,[10,29]⟩,
 ⟨some 49,.move (.t 48),none,[18,30]⟩,
 ⟨some 50,.move (.t 0),some (49,false),[31]⟩,
 ⟨some 51,.fieldAddr 0 (.t 3),some (49,false),[31]⟩,
 ⟨some 52,.load false 1 (.t 51),some (49,false),[31,33]⟩,
 ⟨some 53,.indexAddr 3 none (.t 50) (.t 52),some (49,false),[31,32,34]⟩,
 ⟨some 54,.fieldAddr 2 (.t 53),some (49,false),[31,35]⟩,
 ⟨some 55,.load false 1 (.t 54),some (49,false),[31,36]⟩,
 ⟨some 56,.move (.t 55),some (49,false),[31,37]⟩,
 ⟨some 57,.fieldAddr 2 (.t 3),some (56,true),[38]⟩,
 ⟨some 58,.load false 1 (.t 57),some (56,true),[38,39]⟩,
 ⟨some 59,.len false (.t 58),some (56,true),[38,40]⟩,
 ⟨some 60,.bin .lss (.t 59) (.c (.d (.int .i64 2))),some (56,true),[38,41]⟩,
 ⟨some 61,.pick (.t 56) (.t 60) (.c (.d (.bool false))),some (49,false),[31,38,42]⟩,
 ⟨some 62,.pick (.t 49) (.c (.d (.bool true))) (.t 61),none,[31,43]⟩] ⟨r,B++List.replicate na none⟩):=qby X T na live qyj (by kernel_rfl) r B
theorem qwf(X:XEnv)(T:List Nat)(na:Nat)(live:List Nat)(r:List (Nat×AV))(B:qak):qau X T (.region true na live qyh) ⟨r,B⟩=qd2 live (qcy (qad X) X.lin T true B.length [
 ⟨some 71,.move (.t 0),none,[]⟩,
 ⟨some 72,.load true 3 (.t 6),none,[]⟩,
 ⟨some 73,.call true (.c (.fn 78 [])) [.t 71,.t 72],none,[0,1]⟩,
 ⟨some 74,.not (.t 73),none,[2]⟩,
 ⟨some 75,.move (.t 74),none,[2,3]⟩,
 ⟨some 76,.move (.t 0),some (75,false),[4]⟩,
 ⟨some 77,.fieldAddr 0 (.t 3),some (75,false),[4]⟩,
 ⟨some 78,.load false 1 (.t 77),some (75,false),[4,6]⟩,
 ⟨some 79,.indexAddr 3 none (.t 76) (.t 78),some (75,false),[4,5,7]⟩,
 ⟨some 80,.fieldAddr 2 (.t 79),some (75,false),[4,8]⟩,
 ⟨some 81,.load false 1 (.t 80),some (75,false),[4,9]⟩,
 ⟨some 82,.move (.t 81),some (75,false),[4,10]⟩,
 ⟨some 83,.fieldAddr 0 (.t 6),some (82,true),[11]⟩,
 ⟨some 84,.load false 1 (.t 83),some (82,true),[11,12]⟩,
 ⟨some 85,.fieldAddr 0 (.t 3),some (82,true),[11]⟩,
 ⟨some 86,.load false 1 (.t 85),some (82,true),[11,14]⟩,
 ⟨some 87,.bin .eql (.t 84) (.t 86),some (82,true),[11,13,15]⟩,
 ⟨some 88,.move (.t 87),some (82,true),[11,16]⟩,
 ⟨some 89,.move (.t 5),some (88,false),[17]⟩,
 ⟨some 90,.bin .gtr (.t 89) (.c (.d (.int .i64 0))),some (88,false),[17,18]⟩,
 ⟨some 91,.move (.t 90),some (88,false),[17,19]⟩,
 ⟨some 92,.load true 3 (.t 6),some (91,true),[20]⟩,
 ⟨some 93,.fieldAddr 2 (.t 3),some (91,true),[20]⟩,
 ⟨some 94,.load false 1 (.t 93),some (91,true),[20,22]⟩,
 ⟨some 95,.move (.t 5),some (91,true),[20]⟩,
 ⟨some 96,.bin .sub (.t 95) (.c (.d (.int .i64 1))),some (91,true),[20,24]⟩,
 ⟨some 97,.indexAddr 3 none (.t 94) (.t 96),some (91,true),[20,23,25]⟩,
 ⟨some 98,.load true 3 (.t 97),some (91,true),[20,26]⟩,
 ⟨some 99,.call true (.c (.fn 79 [])) [.t 92,.t 98],some (91,true),[20,21,27]⟩,
 ⟨some 100,.pick (.t 91) (.t 99) (.c (.d (.bool false))),some (88,false),[17,20,28]⟩,
 ⟨some 101,.pick (.t 88) (.c (.d (.bool true))) (.t 100),some (82,true),[11,17,29]⟩,
 ⟨some 102,.pick (.t 82) (.t 101) (.c (.d (.bool false))),some (75,false),[4,11,30]⟩,
 ⟨some 103,.pick (.t 75) (.c (.d (.bool true))) (.t 102),none,[4,31]⟩] ⟨r,B++List.replicate na none⟩):=qby X T na live qyh (by kernel_rfl) r B
theorem qwe(X:XEnv)(T:List Nat)(na:Nat)(live:List Nat)(r:List (Nat×AV))(B:qak):qau X T (.region true na live qye) ⟨r,B⟩=qd2 live (qcy (qad X) X.lin T true B.length [
 ⟨some 18,.fieldAddr 0 (.t 3),none,[]⟩,
 ⟨some 19,.load false 1 (.t 18),none,[0]⟩,
 ⟨some 20,.move (.t 0),none,[]⟩,
 ⟨some 21,.len false (.t 20),none,[2]⟩,
 ⟨some 22,.bin .sub (.t 21) (.c (.d (.int .i64 1))),none,[3]⟩,
 ⟨some 23,.call true (.c (.fn 31 [])) [.t 19,.c (.d (.int .i64 0)),.t 22],none,[1,4]⟩,
 ⟨some 24,.not (.t 23),none,[5]⟩,
 ⟨some 25,.move (.t 24),none,[5,6]⟩,
 ⟨some 26,.fieldAddr 1 (.t 3),some (25,false),[7]⟩,
 ⟨some 27,.load false 1 (.t 26),some (25,false),[7,8]⟩,
 ⟨some 28,.bin .neq (.t 27) (.c (.d (.int .i64 0))),some (25,false),[7,9]⟩,
 ⟨some 29,.pick (.t 25) (.c (.d (.bool true))) (.t 28),none,[7,10]⟩,
 ⟨some 30,.move (.t 29),none,[7,11]⟩,
 ⟨some 31,.move (.t 0),some (30,false),[12]⟩,
 ⟨some 32,.fieldAddr 0 (.t 3),some (30,false),[12]⟩,
 ⟨some 33,.load false 1 (.t 32),some (30,false),[12,14]⟩,
 ⟨some 34,.indexAddr 3 none (.t 31) (.t 33),some (30,false),[12,13,15]⟩,
 ⟨some 35,.fieldAddr 2 (.t 34),some (30,false),[12,16]⟩,
 ⟨some 36,.load false 1 (.t 35),some (30,false),[12,17]⟩,
 ⟨some 37,.not (.t 36),some (30,false),[12,18]⟩,
 ⟨some 38,.move (.t 37),some (30,false),[12,19]⟩,
 ⟨some 39,.fieldAddr 2 (.t 3),some (38,true),[20]⟩,
 ⟨some 40,.load false 1 (.t 39),some (38,true),[20,21]⟩,
 ⟨some 41,.len false (.t 40),some (38,true),[20,22]⟩,
 ⟨some 42,.move (.t 0),some (38,true),[20]⟩,
 ⟨some 43,.fieldAddr 0 (.t 3),some (38,true),[20]⟩,
 ⟨some 44,.load false 1 (.t 43),some (38,true),[20,25]⟩,
 ⟨some 45,.indexAddr 3 none (.t 42) (.t 44),some (38,true),[20,24,26]⟩,
 ⟨some 46,.fieldAddr 1 (.t 45),some (38,true),[20,27]⟩,
 ⟨some 47,.load false 1 (.t 46),some (38,true),[20,28]⟩,
 ⟨some 48,.bin .neq (.t 41) (.t 47),some (38,true),[20,23,29]⟩,
 ⟨some 49,.pick (.t 38) (.t 48) (.c (.d (.bool false))),some (30,false),[12,20,30]⟩,
 ⟨some 50,.pick (.t 30) (.c (.d (.bool true))) (.t 49),none,[12,31]⟩,
 ⟨some 51,.move (.t 50),none,[20,32]⟩,
 ⟨some 52,.move (.t 0),some (51,false),[33]⟩,
 ⟨some 53,.fieldAddr 0 (.t 3),some (51,false),[33]⟩,
 ⟨some 54,.load false 1 (.t 53),some (51,false),[33,35]⟩,
 ⟨some 55,.indexAddr 3 none (.t 52) (.t 54),some (51,false),[33,34,36]⟩,
 ⟨some 56,.fieldAddr 2 (.t 55),some (51,false),[33,37]⟩,
 ⟨some 57,.load false 1 (.t 56),some (51,false),[33,38]⟩,
 ⟨some 58,.move (.t 57),some (51,false),[33,39]⟩,
 ⟨some 59,.fieldAddr 2 (.t 3),some (58,true),[40]⟩,
 ⟨some 60,.load false 1 (.t 59),some (58,true),[40,41]⟩,
 ⟨some 61,.len false (.t 60),some (58,true),[40,42]⟩,
 ⟨some 62,.bin .lss (.t 61) (.c (.d (.int .i64 2))),some (58,true),[40,43]⟩,
 ⟨some 63,.pick (.t 58) (.t 62) (.c (.d (.bool false))),some (51,false),[33,40,44]⟩,
 ⟨some 64,.pick (.t 51) (.c (.d (.bool true))) (.t 63),none,[33,45]⟩] ⟨r,B++List.replicate na none⟩):=qby X T na live qye (by kernel_rfl) r B
theorem qnE(X:XEnv)(T:List Nat)(na:Nat)(live:List Nat)(r:List (Nat×AV))(B:qak):qau X T (.region true na live qyc) ⟨r,B⟩=qd2 live (qcy (qad X) X.lin T true B.length [
 ⟨some 72,.move (.t 0),none,[]⟩,
 ⟨some 73,.fieldAddr 0 (.t 3),none,[]⟩,
 ⟨some 74,.load false 1 (.t 73),none,[1]⟩,
 ⟨some 75,.indexAddr 3 none (.t 72) (.t 74),none,[0,2]⟩,
 ⟨some 76,.fieldAddr 2 (.t 75),none,[3]⟩,
 ⟨some 77,.load false 1 (.t 76),none,[4]⟩,
 ⟨some 78,.move (.t 77),none,[5]⟩,
 ⟨some 79,.fieldAddr 2 (.t 3),some (78,true),[6]⟩,
 ⟨some 80,.load false 1 (.t 79),some (78,true),[6,7]⟩,
 ⟨some 81,.move (.t 5),some (78,true),[6]⟩,
 ⟨some 82,.indexAddr 3 none (.t 80) (.t 81),some (78,true),[6,8,9]⟩,
 ⟨some 83,.fieldAddr 0 (.t 82),some (78,true),[6,10]⟩,
 ⟨some 84,.load false 1 (.t 83),some (78,true),[6,11]⟩,
 ⟨some 85,.fieldAddr 0 (.t 3),some (78,true),[6]⟩,
 ⟨some 86,.load false 1 (.t 85),some (78,true),[6,13]⟩,
 ⟨some 87,.bin .eql (.t 84) (.t 86),some (78,true),[6,12,14]⟩,
 ⟨some 88,.move (.t 87),some (78,true),[6,15]⟩,
 ⟨some 89,.move (.t 5),some (88,false),[16]⟩,
 ⟨some 90,.bin .gtr (.t 89) (.c (.d (.int .i64 0))),some (88,false),[16,17]⟩,
 ⟨some 91,.move (.t 90),some (88,false),[16,18]⟩,
 ⟨some 92,.fieldAddr 2 (.t 3),some (91,true),[19]⟩,
 ⟨some 93,.load false 1 (.t 92),some (91,true),[19,20]⟩,
 ⟨some 94,.move (.t 5),some (91,true),[19]⟩,
 ⟨some 95,.indexAddr 3 none (.t 93) (.t 94),some (91,true),[19,21,22]⟩,
 ⟨some 96,.load true 3 (.t 95),some (91,true),[19,23]⟩,
 ⟨some 97,.fieldAddr 2 (.t 3),some (91,true),[19]⟩,
 ⟨some 98,.load false 1 (.t 97),some (91,true),[19,25]⟩,
 ⟨some 99,.move (.t 5),some (91,true),[19]⟩,
 ⟨some 100,.bin .sub (.t 99) (.c (.d (.int .i64 1))),some (91,true),[19,27]⟩,
 ⟨some 101,.indexAddr 3 none (.t 98) (.t 100),some (91,true),[19,26,28]⟩,
 ⟨some 102,.load true 3 (.t 101),some (91,true),[19,29]⟩,
 ⟨some 103,.call true (.c (.fn 84 [])) [.t 96,.t 102],some (91,true),[19,24,30]⟩,
 ⟨some 104,.pick (.t 91) (.t 103) (.c (.d (.bool false))),some (88,false),[16,19,31]⟩,
 ⟨some 105,.pick (.t 88) (.c (.d (.bool true))) (.t 104),some (78,true),[6,16,32]⟩,
 ⟨some 106,.pick (.t 78) (.t 105) (.c (.d (.bool false))),none,[6,33]⟩,
 ⟨some 107,.move (.t 106),none,[31,34]⟩,
 ⟨some 108,.move (.t 0),some (107,false),[35]⟩,
 ⟨some 109,.fieldAddr 2 (.t 3),some (107,false),[35]⟩,
 ⟨some 110,.load false 1 (.t 109),some (107,false),[35,37]⟩,
 ⟨some 111,.move (.t 5),some (107,false),[35]⟩,
 ⟨some 112,.indexAddr 3 none (.t 110) (.t 111),some (107,false),[35,38,39]⟩,
 ⟨some 113,.load true 3 (.t 112),some (107,false),[35,40]⟩,
 ⟨some 114,.call true (.c (.fn 83 [])) [.t 108,.t 113],some (107,false),[35,36,41]⟩,
 ⟨some 115,.not (.t 114),some (107,false),[35,42]⟩,
 ⟨some 116,.pick (.t 107) (.c (.d (.bool true))) (.t 115),none,[35,43]⟩] ⟨r,B++List.replicate na none⟩):=qby X T na live qyc (by kernel_rfl) r B
theorem qh5(X:XEnv)(T:List Nat)(na:Nat)(live:List Nat)(r:List (Nat×AV))(B:qak):qau X T (.region true na live qtY) ⟨r,B⟩=qd2 live (qcy (qad X) X.lin T true B.length [
 ⟨some 47,.fieldAddr 2 (.t 2),none,[]⟩,
 ⟨some 48,.load false 1 (.t 47),none,[0]⟩,
 ⟨some 49,.move (.t 5),none,[]⟩,
 ⟨some 50,.indexAddr 3 none (.t 48) (.t 49),none,[1,2]⟩,
 ⟨some 51,.load true 3 (.t 50),none,[3]⟩,
 ⟨some 52,.fieldAddr 2 (.t 3),none,[]⟩,
 ⟨some 53,.load false 1 (.t 52),none,[5]⟩,
 ⟨some 54,.move (.t 5),none,[]⟩,
 ⟨some 55,.indexAddr 3 none (.t 53) (.t 54),none,[6,7]⟩,
 ⟨some 56,.load true 3 (.t 55),none,[8]⟩,
 ⟨some 57,.call true (.c (.fn 3 [])) [.t 51,.t 56],none,[4,9]⟩,
 ⟨some 58,.not (.t 57),none,[10]⟩] ⟨r,B++List.replicate na none⟩):=qby X T na live qtY (by kernel_rfl) r B
theorem qh4(X:XEnv)(T:List Nat)(na:Nat)(live:List Nat)(r:List (Nat×AV))(B:qak):qau X T (.region true na live qtX) ⟨r,B⟩=qd2 live (qcy (qad X) X.lin T true B.length [
 ⟨some 59,.fieldAddr 2 (.t 2),none,[]⟩,
 ⟨some 60,.load false 1 (.t 59),none,[0]⟩,
 ⟨some 61,.move (.t 5),none,[]⟩,
 ⟨some 62,.indexAddr 3 none (.t 60) (.t 61),none,[1,2]⟩,
 ⟨some 63,.load true 3 (.t 62),none,[3]⟩,
 ⟨some 64,.fieldAddr 2 (.t 3),none,[]⟩,
 ⟨some 65,.load false 1 (.t 64),none,[5]⟩,
 ⟨some 66,.move (.t 5),none,[]⟩,
 ⟨some 67,.indexAddr 3 none (.t 65) (.t 66),none,[6,7]⟩,
 ⟨some 68,.load true 3 (.t 67),none,[8]⟩,
 ⟨some 69,.call true (.c (.fn 84 [])) [.t 63,.t 68],none,[4,9]⟩,
 ⟨some 4,.move (.t 69),none,[0,1,2,3,4,5,6,7,8,9,10]⟩] ⟨r,B++List.replicate na none⟩):=qby X T na live qtX (by kernel_rfl) r B
theorem qjN(X:XEnv)(T:List Nat)(na:Nat)(live:List Nat)(r:List (Nat×AV))(B:qak):qau X T (.regionF true na live quZ) ⟨r,B⟩=qd2 live (xFs (qad X) X.lin T true B.length [
 .one ⟨some 35,.fieldAddr 2 (.t 5),none,[]⟩,
 .one ⟨some 36,.load false 1 (.t 35),none,[0]⟩,
 .one ⟨some 37,.fieldAddr 2 (.t 7),none,[]⟩,
 .el 38 37 39 (.t 8) 40 3 41 [2] [] [3,4] [5],
 .one ⟨some 42,.call false (.c (.fn 154 [])) [.t 36,.t 41],none,[1,6]⟩,
 .one ⟨some 43,.fieldAddr 2 (.t 5),none,[0,1,2,3,4,5,6,7]⟩,
 .one ⟨none,.store false 1 (.t 43) (.t 42),none,[0,1,2,3,4,5,6,7,8]⟩] ⟨r,B++List.replicate na none⟩):=qAR X T na live quZ (by kernel_rfl) r B
theorem qwl(X:XEnv)(T:List Nat)(na:Nat)(live:List Nat)(r:List (Nat×AV))(B:qak):qau X T (.region true na live quY) ⟨r,B⟩=qd2 live (qcy (qad X) X.lin T true B.length [
 ⟨some 7,.move (.t 5),none,[]⟩,
 ⟨some 8,.move (.t 0),none,[]⟩,
 ⟨some 9,.len false (.t 8),none,[1]⟩,
 ⟨some 10,.bin .lss (.t 7) (.t 9),none,[0,2]⟩,
 ⟨some 11,.move (.t 10),none,[3]⟩,
 ⟨some 12,.load true 3 (.t 3),some (11,true),[4]⟩,
 ⟨some 13,.move (.t 0),some (11,true),[4]⟩,
 ⟨some 14,.move (.t 5),some (11,true),[4]⟩,
 ⟨some 15,.indexAddr 3 none (.t 13) (.t 14),some (11,true),[4,6,7]⟩,
 ⟨some 16,.load true 3 (.t 15),some (11,true),[4,8]⟩,
 ⟨some 17,.call true (.c (.fn 84 [])) [.t 12,.t 16],some (11,true),[4,5,9]⟩,
 ⟨some 18,.not (.t 17),some (11,true),[4,10]⟩,
 ⟨some 19,.pick (.t 11) (.t 18) (.c (.d (.bool false))),none,[4,11]⟩] ⟨r,B++List.replicate na none⟩):=qby X T na live quY (by kernel_rfl) r B
theorem qGt(X:XEnv)(T:List Nat)(na:Nat)(live:List Nat)(r:List (Nat×AV))(B:qak):qau X T (.region true na live qmW) ⟨r,B⟩=qd2 live (qcy (qad X) X.lin T true B.length [
 ⟨some 25,.move (.t 4),none,[]⟩,
 ⟨some 26,.nilCheck (.t 25),none,[0]⟩,
 ⟨some 27,.fieldAddr 2 (.t 26),none,[1]⟩,
 ⟨some 28,.loadS false 1 (.t 27) 0,none,[2]⟩,
 ⟨some 29,.move (.t 0),none,[]⟩,
 ⟨some 30,.move (.t 4),none,[]⟩,
 ⟨some 31,.nilCheck (.t 30),none,[5]⟩,
 ⟨some 32,.fieldAddr 2 (.t 31),none,[6]⟩,
 ⟨some 33,.load false 1 (.t 32),none,[7]⟩,
 ⟨some 34,.len false (.t 33),none,[8]⟩,
 ⟨some 35,.callS 0 (.c (.fn 159 [])) [.t 29,.t 34],none,[4,9]⟩,
 ⟨some 36,.indexAddr 3 none (.t 28) (.t 35),none,[3,10]⟩,
 ⟨some 4,.move (.t 36),none,[0,1,2,3,4,5,6,7,8,9,10,11]⟩] ⟨r,B++List.replicate na none⟩):=qby X T na live qmW (by kernel_rfl) r B
theorem qCO(X:XEnv)(T:List Nat)(na:Nat)(live:List Nat)(r:List (Nat×AV))(B:qak):qau X T (.regionT na live qlH qfX) ⟨r,B⟩=xTl (qad X) X.lin T B.length live [
 ⟨some 65,.append1 3 40 (.t 60) (.t 64) (.t 63) (.t 62) 66,none,[]⟩,
 ⟨some 67,.nilCheck (.t 57),none,[]⟩,
 ⟨some 68,.fieldAddr 2 (.t 67),none,[]⟩,
 ⟨none,.store false 1 (.t 68) (.t 65),none,[]⟩] (qcy (qad X) X.lin T true B.length [
 ⟨some 57,.move (.t 4),none,[]⟩,
 ⟨some 58,.nilCheck (.t 57),none,[0]⟩,
 ⟨some 59,.fieldAddr 2 (.t 58),none,[1]⟩,
 ⟨some 60,.loadS false 1 (.t 59) 0,none,[2]⟩,
 ⟨some 61,.move (.t 0),none,[]⟩,
 ⟨some 62,.callS 0 (.c (.fn 166 [])) [.t 61,.c (.d (.int .i64 1)),.c (.d (.int .i64 2))],none,[4]⟩,
 ⟨some 63,.len false (.t 60),none,[3]⟩,
 ⟨some 64,.buildSlice 3 (.agg [.int .i64 0,.int .i64 0,.sl .nil []]) 1 [(0,.c (.d (.agg [.int .i64 0,.int .i64 0,.sl .nil []])))],none,[]⟩] ⟨r,B++List.replicate na none⟩):=qsA X T na live qlH qfX (by kernel_rfl) r B
theorem qAD(X:XEnv)(T:List Nat)(na:Nat)(live:List Nat)(r:List (Nat×AV))(B:qak):qau X T (.region true na live quQ) ⟨r,B⟩=qd2 live (qcy (qad X) X.lin T true B.length [
 ⟨some 13,.move (.t 0),none,[]⟩,
 ⟨some 14,.nilCheck (.t 13),none,[0]⟩,
 ⟨some 15,.fieldAddr 2 (.t 14),none,[1]⟩,
 ⟨some 16,.load false 1 (.t 15),none,[2]⟩,
 ⟨some 17,.bin .shr (.t 16) (.c (.d (.int .u64 33))),none,[3]⟩,
 ⟨some 18,.move (.t 0),none,[]⟩,
 ⟨some 19,.nilCheck (.t 18),none,[5]⟩,
 ⟨some 20,.fieldAddr 2 (.t 19),none,[6]⟩,
 ⟨some 21,.load false 1 (.t 20),none,[7]⟩,
 ⟨some 22,.bin .shr (.t 21) (.c (.d (.int .u64 45))),none,[8]⟩,
 ⟨some 23,.bin .xor (.t 17) (.t 22),none,[4,9]⟩,
 ⟨some 24,.bin .and (.t 23) (.c (.d (.int .i64 255))),none,[10]⟩,
 ⟨some 3,.move (.t 24),none,[0,1,2,3,4,5,6,7,8,9,10,11]⟩] ⟨r,B++List.replicate na none⟩):=qby X T na live quQ (by kernel_rfl) r B
theorem qAC(X:XEnv)(T:List Nat)(na:Nat)(live:List Nat)(r:List (Nat×AV))(B:qak):qau X T (.region true na live quP) ⟨r,B⟩=qd2 live (qcy (qad X) X.lin T true B.length [
 ⟨some 25,.move (.t 0),none,[]⟩,
 ⟨some 26,.nilCheck (.t 25),none,[0]⟩,
 ⟨some 27,.fieldAddr 1 (.t 26),none,[1]⟩,
 ⟨some 28,.load false 1 (.t 27),none,[2]⟩,
 ⟨some 29,.move (.t 0),none,[]⟩,
 ⟨some 30,.nilCheck (.t 29),none,[4]⟩,
 ⟨some 31,.fieldAddr 0 (.t 30),none,[5]⟩,
 ⟨some 32,.load false 1 (.t 31),none,[6]⟩,
 ⟨some 33,.len false (.t 32),none,[7]⟩,
 ⟨some 34,.bin .lss (.t 28) (.t 33),none,[3,8]⟩] ⟨r,B++List.replicate na none⟩):=qby X T na live quP (by kernel_rfl) r B
theorem qAB(X:XEnv)(T:List Nat)(na:Nat)(live:List Nat)(r:List (Nat×AV))(B:qak):qau X T (.region true na live quO) ⟨r,B⟩=qd2 live (qcy (qad X) X.lin T true B.length [
 ⟨some 35,.move (.t 3),none,[]⟩,
 ⟨some 36,.move (.t 0),none,[]⟩,
 ⟨some 37,.nilCheck (.t 36),none,[1]⟩,
 ⟨some 38,.fieldAddr 0 (.t 37),none,[2]⟩,
 ⟨some 39,.load false 1 (.t 38),none,[3]⟩,
 ⟨some 40,.move (.t 0),none,[]⟩,
 ⟨some 41,.nilCheck (.t 40),none,[5]⟩,
 ⟨some 42,.fieldAddr 1 (.t 41),none,[6]⟩,
 ⟨some 43,.load false 1 (.t 42),none,[7]⟩,
 ⟨some 44,.indexAddr 1 none (.t 39) (.t 43),none,[4,8]⟩,
 ⟨some 45,.load false 1 (.t 44),none,[9]⟩,
 ⟨some 46,.conv (.kind .i64) (.t 45),none,[10]⟩,
 ⟨some 47,.bin .add (.t 35) (.t 46),none,[0,11]⟩,
 ⟨some 48,.bin .and (.t 47) (.c (.d (.int .i64 255))),none,[12]⟩,
 ⟨some 3,.move (.t 48),none,[0,1,2,3,4,5,6,7,8,9,10,11,12,13]⟩] ⟨r,B++List.replicate na none⟩):=qby X T na live quO (by kernel_rfl) r B
theorem qAA(X:XEnv)(T:List Nat)(na:Nat)(live:List Nat)(r:List (Nat×AV))(B:qak):qau X T (.region true na live qpH) ⟨r,B⟩=qd2 live (qcy (qad X) X.lin T true B.length [
 ⟨some 18,.move (.t 9),none,[]⟩,
 ⟨some 19,.move (.t 1),none,[]⟩,
 ⟨some 20,.bin .gtr (.t 18) (.t 19),none,[0,1]⟩,
 ⟨some 21,.move (.t 20),none,[2]⟩,
 ⟨some 22,.move (.t 3),some (21,true),[3]⟩,
 ⟨some 23,.move (.t 0),some (21,true),[3]⟩,
 ⟨some 24,.move (.t 9),some (21,true),[3]⟩,
 ⟨some 25,.indexAddr 3 none (.t 23) (.t 24),some (21,true),[3,5,6]⟩,
 ⟨some 26,.load true 3 (.t 25),some (21,true),[3,7]⟩,
 ⟨some 27,.move (.t 0),some (21,true),[3]⟩,
 ⟨some 28,.move (.t 9),some (21,true),[3]⟩,
 ⟨some 29,.bin .sub (.t 28) (.c (.d (.int .i64 1))),some (21,true),[3,10]⟩,
 ⟨some 30,.indexAddr 3 none (.t 27) (.t 29),some (21,true),[3,9,11]⟩,
 ⟨some 31,.load true 3 (.t 30),some (21,true),[3,12]⟩,
 ⟨some 32,.call false (.t 22) [.t 26,.t 31],some (21,true),[3,4,8,13]⟩,
 ⟨some 33,.bin .lss (.t 32) (.c (.d (.int .i64 0))),some (21,true),[3,14]⟩,
 ⟨some 34,.pick (.t 21) (.t 33) (.c (.d (.bool false))),none,[3,15]⟩] ⟨r,B++List.replicate na none⟩):=qby X T na live qpH (by kernel_rfl) r B
theorem qAz(X:XEnv)(T:List Nat)(na:Nat)(live:List Nat)(r:List (Nat×AV))(B:qak):qau X T (.region true na live qpG) ⟨r,B⟩=qd2 live (qcy (qad X) X.lin T true B.length [
 ⟨some 37,.move (.t 0),none,[]⟩,
 ⟨some 38,.move (.t 9),none,[]⟩,
 ⟨some 39,.move (.t 0),none,[]⟩,
 ⟨some 40,.move (.t 9),none,[]⟩,
 ⟨some 41,.bin .sub (.t 40) (.c (.d (.int .i64 1))),none,[3]⟩,
 ⟨some 42,.move (.t 0),none,[]⟩,
 ⟨some 43,.move (.t 9),none,[]⟩,
 ⟨some 44,.bin .sub (.t 43) (.c (.d (.int .i64 1))),none,[6]⟩,
 ⟨some 45,.indexAddr 3 none (.t 42) (.t 44),none,[5,7]⟩,
 ⟨some 46,.load true 3 (.t 45),none,[8]⟩,
 ⟨some 47,.move (.t 0),none,[]⟩,
 ⟨some 48,.move (.t 9),none,[]⟩,
 ⟨some 49,.indexAddr 3 none (.t 47) (.t 48),none,[10,11]⟩,
 ⟨some 50,.load true 3 (.t 49),none,[12]⟩,
 ⟨some 51,.indexAddr 3 none (.t 37) (.t 38),none,[0,1,5,6,7,8,9,13]⟩,
 ⟨none,.store false 3 (.t 51) (.t 46),none,[0,1,5,6,7,8,9,13,14]⟩,
 ⟨some 52,.indexAddr 3 none (.t 39) (.t 41),none,[0,1,2,3,4,5,6,7,8,9,10,11,12,13,14,15]⟩,
 ⟨none,.store false 3 (.t 52) (.t 50),none,[0,1,2,3,4,5,6,7,8,9,10,11,12,13,14,15,16]⟩] ⟨r,B++List.replicate na none⟩):=qby X T na live qpG (by kernel_rfl) r B
theorem qGs(X:XEnv)(T:List Nat)(na:Nat)(live:List Nat)(r:List (Nat×AV))(B:qak):qau X T (.region true na live qpE) ⟨r,B⟩=qd2 live (qcy (qad X) X.lin T true B.length [
 ⟨some 40,.move (.t 4),none,[]⟩,
 ⟨some 41,.move (.t 0),none,[]⟩,
 ⟨some 42,.move (.t 12),none,[]⟩,
 ⟨some 43,.indexAddr 3 none (.t 41) (.t 42),none,[1,2]⟩,
 ⟨some 44,.load true 3 (.t 43),none,[3]⟩,
 ⟨some 45,.move (.t 0),none,[]⟩,
 ⟨some 46,.move (.t 1),none,[]⟩,
 ⟨some 47,.indexAddr 3 none (.t 45) (.t 46),none,[5,6]⟩,
 ⟨some 48,.load true 3 (.t 47),none,[7]⟩,
 ⟨some 49,.call false (.t 40) [.t 44,.t 48],none,[0,4,8]⟩,
 ⟨some 50,.bin .lss (.t 49) (.c (.d (.int .i64 0))),none,[9]⟩] ⟨r,B++List.replicate na none⟩):=qby X T na live qpE (by kernel_rfl) r B
theorem qCN(X:XEnv)(T:List Nat)(na:Nat)(live:List Nat)(r:List (Nat×AV))(B:qak):qau X T (.region true na live qlE) ⟨r,B⟩=qd2 live (qcy (qad X) X.lin T true B.length [
 ⟨some 61,.move (.t 0),none,[]⟩,
 ⟨some 62,.move (.t 13),none,[]⟩,
 ⟨some 63,.move (.t 0),none,[]⟩,
 ⟨some 64,.move (.t 13),none,[]⟩,
 ⟨some 65,.bin .add (.t 64) (.c (.d (.int .i64 1))),none,[3]⟩,
 ⟨some 66,.move (.t 0),none,[]⟩,
 ⟨some 67,.move (.t 13),none,[]⟩,
 ⟨some 68,.bin .add (.t 67) (.c (.d (.int .i64 1))),none,[6]⟩,
 ⟨some 69,.indexAddr 3 none (.t 66) (.t 68),none,[5,7]⟩,
 ⟨some 70,.load true 3 (.t 69),none,[8]⟩,
 ⟨some 71,.move (.t 0),none,[]⟩,
 ⟨some 72,.move (.t 13),none,[]⟩,
 ⟨some 73,.indexAddr 3 none (.t 71) (.t 72),none,[10,11]⟩,
 ⟨some 74,.load true 3 (.t 73),none,[12]⟩,
 ⟨some 75,.indexAddr 3 none (.t 61) (.t 62),none,[0,1,5,6,7,8,9,13]⟩,
 ⟨none,.store false 3 (.t 75) (.t 70),none,[0,1,5,6,7,8,9,13,14]⟩,
 ⟨some 76,.indexAddr 3 none (.t 63) (.t 65),none,[0,1,2,3,4,5,6,7,8,9,10,11,12,13,14,15]⟩,
 ⟨none,.store false 3 (.t 76) (.t 74),none,[0,1,2,3,4,5,6,7,8,9,10,11,12,13,14,15,16]⟩] ⟨r,B++List.replicate na none⟩):=qby X T na live qlE (by kernel_rfl) r B
theorem qwk(X:XEnv)(T:List Nat)(na:Nat)(live:List Nat)(r:List (Nat×AV))(B:qak):qau X T (.region true na live qlB) ⟨r,B⟩=qd2 live (qcy (qad X) X.lin T true B.length [
 ⟨some 92,.move (.t 4),none,[]⟩,
 ⟨some 93,.move (.t 0),none,[]⟩,
 ⟨some 94,.move (.t 2),none,[]⟩,
 ⟨some 95,.indexAddr 3 none (.t 93) (.t 94),none,[1,2]⟩,
 ⟨some 96,.load true 3 (.t 95),none,[3]⟩,
 ⟨some 97,.move (.t 0),none,[]⟩,
 ⟨some 98,.move (.t 16),none,[]⟩,
 ⟨some 99,.indexAddr 3 none (.t 97) (.t 98),none,[5,6]⟩,
 ⟨some 100,.load true 3 (.t 99),none,[7]⟩,
 ⟨some 101,.call false (.t 92) [.t 96,.t 100],none,[0,4,8]⟩,
 ⟨some 102,.bin .lss (.t 101) (.c (.d (.int .i64 0))),none,[9]⟩,
 ⟨some 103,.not (.t 102),none,[10]⟩] ⟨r,B++List.replicate na none⟩):=qby X T na live qlB (by kernel_rfl) r B
theorem qCM(X:XEnv)(T:List Nat)(na:Nat)(live:List Nat)(r:List (Nat×AV))(B:qak):qau X T (.region true na live qlA) ⟨r,B⟩=qd2 live (qcy (qad X) X.lin T true B.length [
 ⟨some 113,.move (.t 0),none,[]⟩,
 ⟨some 114,.move (.t 17),none,[]⟩,
 ⟨some 115,.move (.t 0),none,[]⟩,
 ⟨some 116,.move (.t 17),none,[]⟩,
 ⟨some 117,.bin .sub (.t 116) (.c (.d (.int .i64 1))),none,[3]⟩,
 ⟨some 118,.move (.t 0),none,[]⟩,
 ⟨some 119,.move (.t 17),none,[]⟩,
 ⟨some 120,.bin .sub (.t 119) (.c (.d (.int .i64 1))),none,[6]⟩,
 ⟨some 121,.indexAddr 3 none (.t 118) (.t 120),none,[5,7]⟩,
 ⟨some 122,.load true 3 (.t 121),none,[8]⟩,
 ⟨some 123,.move (.t 0),none,[]⟩,
 ⟨some 124,.move (.t 17),none,[]⟩,
 ⟨some 125,.indexAddr 3 none (.t 123) (.t 124),none,[10,11]⟩,
 ⟨some 126,.load true 3 (.t 125),none,[12]⟩,
 ⟨some 127,.indexAddr 3 none (.t 113) (.t 114),none,[0,1,5,6,7,8,9,13]⟩,
 ⟨none,.store false 3 (.t 127) (.t 122),none,[0,1,5,6,7,8,9,13,14]⟩,
 ⟨some 128,.indexAddr 3 none (.t 115) (.t 117),none,[0,1,2,3,4,5,6,7,8,9,10,11,12,13,14,15]⟩,
 ⟨none,.store false 3 (.t 128) (.t 126),none,[0,1,2,3,4,5,6,7,8,9,10,11,12,13,14,15,16]⟩] ⟨r,B++List.replicate na none⟩):=qby X T na live qlA (by kernel_rfl) r B
theorem qwj(X:XEnv)(T:List Nat)(na:Nat)(live:List Nat)(r:List (Nat×AV))(B:qak):qau X T (.region true na live qly) ⟨r,B⟩=qd2 live (qcy (qad X) X.lin T true B.length [
 ⟨some 158,.move (.t 4),none,[]⟩,
 ⟨some 159,.move (.t 0),none,[]⟩,
 ⟨some 160,.move (.t 22),none,[]⟩,
 ⟨some 161,.move (.t 23),none,[]⟩,
 ⟨some 162,.bin .sub (.t 160) (.t 161),none,[2,3]⟩,
 ⟨some 163,.indexAddr 3 none (.t 159) (.t 162),none,[1,4]⟩,
 ⟨some 164,.load true 3 (.t 163),none,[5]⟩,
 ⟨some 165,.move (.t 0),none,[]⟩,
 ⟨some 166,.move (.t 23),none,[]⟩,
 ⟨some 167,.indexAddr 3 none (.t 165) (.t 166),none,[7,8]⟩,
 ⟨some 168,.load true 3 (.t 167),none,[9]⟩,
 ⟨some 169,.call false (.t 158) [.t 164,.t 168],none,[0,6,10]⟩,
 ⟨some 170,.bin .lss (.t 169) (.c (.d (.int .i64 0))),none,[11]⟩,
 ⟨some 171,.not (.t 170),none,[12]⟩] ⟨r,B++List.replicate na none⟩):=qby X T na live qly (by kernel_rfl) r B
theorem qGr(X:XEnv)(T:List Nat)(na:Nat)(live:List Nat)(r:List (Nat×AV))(B:qak):qau X T (.region true na live qpz) ⟨r,B⟩=qd2 live (qcy (qad X) X.lin T true B.length [
 ⟨some 16,.move (.t 0),none,[]⟩,
 ⟨some 17,.move (.t 1),none,[]⟩,
 ⟨some 18,.move (.t 10),none,[]⟩,
 ⟨some 19,.bin .add (.t 17) (.t 18),none,[1,2]⟩,
 ⟨some 20,.move (.t 0),none,[]⟩,
 ⟨some 21,.move (.t 2),none,[]⟩,
 ⟨some 22,.move (.t 10),none,[]⟩,
 ⟨some 23,.bin .add (.t 21) (.t 22),none,[5,6]⟩,
 ⟨some 24,.move (.t 0),none,[]⟩,
 ⟨some 25,.move (.t 2),none,[]⟩,
 ⟨some 26,.move (.t 10),none,[]⟩,
 ⟨some 27,.bin .add (.t 25) (.t 26),none,[9,10]⟩,
 ⟨some 28,.indexAddr 3 none (.t 24) (.t 27),none,[8,11]⟩,
 ⟨some 29,.load true 3 (.t 28),none,[12]⟩,
 ⟨some 30,.move (.t 0),none,[]⟩,
 ⟨some 31,.move (.t 1),none,[]⟩,
 ⟨some 32,.move (.t 10),none,[]⟩,
 ⟨some 33,.bin .add (.t 31) (.t 32),none,[15,16]⟩,
 ⟨some 34,.indexAddr 3 none (.t 30) (.t 33),none,[14,17]⟩,
 ⟨some 35,.load true 3 (.t 34),none,[18]⟩,
 ⟨some 36,.indexAddr 3 none (.t 16) (.t 19),none,[0,1,2,3,8,9,10,11,12,13,19]⟩,
 ⟨none,.store false 3 (.t 36) (.t 29),none,[0,1,2,3,8,9,10,11,12,13,19,20]⟩,
 ⟨some 37,.indexAddr 3 none (.t 20) (.t 23),none,[0,1,2,3,4,5,6,7,8,9,10,11,12,13,14,15,16,17,18,19,20,21]⟩,
 ⟨none,.store false 3 (.t 37) (.t 35),none,[0,1,2,3,4,5,6,7,8,9,10,11,12,13,14,15,16,17,18,19,20,21,22]⟩] ⟨r,B++List.replicate na none⟩):=qby X T na live qpz (by kernel_rfl) r B
theorem qAy(X:XEnv)(T:List Nat)(na:Nat)(live:List Nat)(r:List (Nat×AV))(B:qak):qau X T (.region true na live qt9) ⟨r,B⟩=qd2 live (qcy (qad X) X.lin T true B.length [
 ⟨some 12,.move (.t 4),none,[]⟩,
 ⟨some 13,.callS 4 (.c (.fn 195 [])) [.t 12],none,[0]⟩,
 ⟨some 14,.loadS true 3 (.t 5) 4,none,[]⟩,
 ⟨some 2,.move (.t 13),none,[0,1]⟩,
 ⟨none,.store false 3 (.t 3) (.t 14),none,[0,1,2,3]⟩] ⟨r,B++List.replicate na none⟩):=qby X T na live qt9 (by kernel_rfl) r B
theorem qAx(X:XEnv)(T:List Nat)(na:Nat)(live:List Nat)(r:List (Nat×AV))(B:qak):qau X T (.region true na live qt8) ⟨r,B⟩=qd2 live (qcy (qad X) X.lin T true B.length [
 ⟨some 15,.call true (.c (.fn 155 [])) [],none,[]⟩,
 ⟨some 16,.load true 3 (.t 5),none,[]⟩,
 ⟨some 2,.move (.t 15),none,[0]⟩,
 ⟨none,.store false 3 (.t 3) (.t 16),none,[0,1,2]⟩] ⟨r,B++List.replicate na none⟩):=qby X T na live qt8 (by kernel_rfl) r B
theorem qwi(X:XEnv)(T:List Nat)(na:Nat)(live:List Nat)(r:List (Nat×AV))(B:qak):qau X T (.region true na live qt7) ⟨r,B⟩=qd2 live (qcy (qad X) X.lin T true B.length [
 ⟨some 19,.move (.t 3),none,[]⟩,
 ⟨some 20,.load true 3 (.t 4),none,[]⟩,
 ⟨some 21,.call true (.c (.fn 70 [])) [.t 19,.t 20],none,[0,1]⟩,
 ⟨some 22,.move (.t 3),none,[]⟩,
 ⟨some 23,.load true 3 (.t 4),none,[]⟩,
 ⟨some 24,.call true (.c (.fn 80 [])) [.t 22,.t 23],none,[2,3,4]⟩,
 ⟨some 25,.eqB true (.t 21) (.t 24),none,[2,5]⟩,
 ⟨some 26,.move (.t 25),none,[5,6]⟩,
 ⟨some 27,.move (.t 5),some (26,false),[7]⟩,
 ⟨some 28,.load true 3 (.t 6),some (26,false),[7]⟩,
 ⟨some 29,.call true (.c (.fn 118 [])) [.t 27,.t 28],some (26,false),[7,8,9]⟩,
 ⟨some 30,.move (.t 5),some (26,false),[7]⟩,
 ⟨some 31,.load true 3 (.t 6),some (26,false),[7]⟩,
 ⟨some 32,.call true (.c (.fn 117 [])) [.t 30,.t 31],some (26,false),[7,10,11,12]⟩,
 ⟨some 33,.bin .neq (.t 29) (.t 32),some (26,false),[7,10,13]⟩,
 ⟨some 34,.pick (.t 26) (.c (.d (.bool true))) (.t 33),none,[7,14]⟩] ⟨r,B++List.replicate na none⟩):=qby X T na live qt7 (by kernel_rfl) r B
theorem qwh(X:XEnv)(T:List Nat)(na:Nat)(live:List Nat)(r:List (Nat×AV))(B:qak):qau X T (.region true na live qt6) ⟨r,B⟩=qd2 live (qcy (qad X) X.lin T true B.length [
 ⟨some 35,.move (.t 3),none,[]⟩,
 ⟨some 36,.load true 3 (.t 4),none,[]⟩,
 ⟨some 37,.call true (.c (.fn 70 [])) [.t 35,.t 36],none,[0,1]⟩,
 ⟨some 38,.not (.t 37),none,[2]⟩,
 ⟨some 39,.move (.t 38),none,[2,3]⟩,
 ⟨some 40,.move (.t 3),some (39,false),[4]⟩,
 ⟨some 41,.load true 3 (.t 4),some (39,false),[4]⟩,
 ⟨some 42,.call true (.c (.fn 169 [])) [.t 40,.t 41],some (39,false),[4,5,6]⟩,
 ⟨some 43,.load true 3 (.t 4),some (39,false),[4]⟩,
 ⟨some 44,.call true (.c (.fn 4 [])) [.t 42,.t 43],some (39,false),[4,7,8]⟩,
 ⟨some 45,.move (.t 44),some (39,false),[4,9]⟩,
 ⟨some 46,.move (.t 3),some (45,true),[10]⟩,
 ⟨some 47,.load true 3 (.t 4),some (45,true),[10]⟩,
 ⟨some 48,.call true (.c (.fn 118 [])) [.t 46,.t 47],some (45,true),[10,11,12]⟩,
 ⟨some 49,.bin .geq (.t 48) (.c (.d (.int .i64 1))),some (45,true),[10,13]⟩,
 ⟨some 50,.pick (.t 45) (.t 49) (.c (.d (.bool false))),some (39,false),[4,10,14]⟩,
 ⟨some 51,.pick (.t 39) (.c (.d (.bool true))) (.t 50),none,[4,15]⟩,
 ⟨some 2,.move (.t 51),none,[0,1,2,3,4,5,6,7,8,9,10,11,12,13,14,15,16]⟩] ⟨r,B++List.replicate na none⟩):=qby X T na live qt6 (by kernel_rfl) r B
theorem qGq(X:XEnv)(T:List Nat)(na:Nat)(live:List Nat)(r:List (Nat×AV))(B:qak):qau X T (.region true na live qt5) ⟨r,B⟩=qd2 live (qcy (qad X) X.lin T true B.length [
 ⟨some 11,.move (.t 4),none,[]⟩,
 ⟨some 12,.load true 3 (.t 5),none,[]⟩,
 ⟨some 2,.move (.t 11),none,[0]⟩,
 ⟨none,.store false 3 (.t 3) (.t 12),none,[0,1,2]⟩] ⟨r,B++List.replicate na none⟩):=qby X T na live qt5 (by kernel_rfl) r B
theorem qGp(X:XEnv)(T:List Nat)(na:Nat)(live:List Nat)(r:List (Nat×AV))(B:qak):qau X T (.region true na live qt4) ⟨r,B⟩=qd2 live (qcy (qad X) X.lin T true B.length [
 ⟨some 11,.move (.t 4),none,[]⟩,
 ⟨some 12,.load true 3 (.t 5),none,[]⟩,
 ⟨some 2,.move (.t 11),none,[0]⟩,
 ⟨none,.store false 3 (.t 3) (.t 12),none,[0,1,2]⟩] ⟨r,B++List.replicate na none⟩):=qby X T na live qt4 (by kernel_rfl) r B
theorem qu8:∀{l:List (Nat×VFn)} {k:Nat} {v:VFn},look l k=some v->(k,v)∈l
 | [],_,_,h=>by simp[look]at h
 |(a,u)::r,k,v,h=>by
  simp only[look]at h;split at h
  ·rename_i hk
   simp at h;subst h;subst hk;simp
  ·exact List.mem_cons_of_mem _ (qu8 h)
theorem qCi:qyY.all (fun q=>q.2.linOK (qne qCg q.1))=true:=by kernel_rfl
theorem qxY:qBu.all (fun q=>q.2.pre.linOK (qne qCg q.1)&&q.2.rest.linOK (qne qCg q.1)&&qan (qne qCg q.1) (q.2.results.flatMap VRes.vx)&&(qne qCg q.1).all (fun j=>decide (q.2.np<=j)))=true:=by kernel_rfl
theorem qp1:∀q,q∈qyv->qAJ q.2 (qB8 q.2)/\qne qCg q.1=[]:=List.forall_mem_nil _
theorem xok:XOK XV:=⟨fun f vf h=>List.all_eq_true.1 qCi (f,vf) (qu8 h),fun f g h=>⟨qB8 g,by show(qjt qyv f).map qB8=_;rw[show qjt qyv f=some g from h];rfl,(qp1 (f,g) (qgp h)).1,(qp1 (f,g) (qgp h)).2⟩,fun f h=>by show(qjt qyv f).map qB8=_;rw[show qjt qyv f=none from h];rfl,fun f sf h=>by
 have:=List.all_eq_true.1 qxY (f,sf) (qjs h);simp only[Bool.and_eq_true]at this;exact⟨this.1.1.1,this.1.1.2,this.1.2,this.2⟩⟩
end Go.Proofs.Ytfiakfiocdfpbaa.VS
