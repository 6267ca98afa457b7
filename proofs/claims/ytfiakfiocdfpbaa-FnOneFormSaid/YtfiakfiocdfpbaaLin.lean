/- Which registers of each function may own rows; the functions for the evaluator without names. -/
import Derived.Test.YtfiakfiocdfpbaaNat2
import Derived.Test.YtfiakfiocdfpbaaCode
import Derived.KernelRfl
set_option linter.unusedVariables false
namespace Go.Proofs.Ytfiakfiocdfpbaa.VS
def qAC:List (Nat×List Nat):=[(146,[9,18,24,25,26,28]),(147,[4]),(150,[5,7]),(151,[2,3,6,12,13,15,16,17,19]),(153,[13,27,36,41,42,51,52,53,54,63,64,65,67]),(154,[0,1,4,6,22,25,26,27,28,29,30,31,34,35]),(155,[0,8]),(156,[28,30]),(161,[7,60,62,64,65,72,73]),(163,[9]),(164,[6,7]),(166,[8,24,28,36,37,40,45,46,47,50]),(169,[5,8,15,18,30,32,33,34,35,36,37,45,47]),(172,[46,50]),(173,[70,74,122,126]),(175,[29,35]),(189,[10,14,16,18,21,31,66,69,72,73,78,82,92,93]),(190,[2,5,11,13,14,16,17,18,19,20]),(191,[2,4,6,10,17,19,20,21,22,26]),(192,[14,15,27,43,46,48]),(193,[15,28,38,43]),(194,[2,9,13,14,15,16]),(195,[2,3,4,40,46,47,48]),(197,[2,3,5,12,17,18,19,20])]
def qmN:List (Nat×List Nat)->Nat->List Nat
 | [],_=>[]
 |(k,v)::r,n=>if n=k then v else qmN r n
noncomputable def XV:XEnv:=⟨E,qmN qAC,qiL qxe⟩
@[simp] theorem qHw:XV.lin 3=[]:=by kernel_rfl
theorem qzD:XV.env.code 3=some v3:=by kernel_rfl
@[simp] theorem qHv:XV.lin 4=[]:=by kernel_rfl
theorem qzC:XV.env.code 4=some v4:=by kernel_rfl
@[simp] theorem qHu:XV.lin 6=[]:=by kernel_rfl
theorem qr7:XV.env.code 6=some v6:=by kernel_rfl
@[simp] theorem qG1:XV.lin 29=[]:=by kernel_rfl
theorem qwx:XV.env.code 29=some v29:=by kernel_rfl
@[simp] theorem qG0:XV.lin 30=[]:=by kernel_rfl
theorem qww:XV.env.code 30=some v30:=by kernel_rfl
@[simp] theorem qGZ:XV.lin 31=[]:=by kernel_rfl
theorem qwv:XV.env.code 31=some v31:=by kernel_rfl
@[simp] theorem qGY:XV.lin 33=[]:=by kernel_rfl
theorem qwu:XV.env.code 33=some v33:=by kernel_rfl
@[simp] theorem qGX:XV.lin 34=[]:=by kernel_rfl
theorem qwt:XV.env.code 34=some v34:=by kernel_rfl
@[simp] theorem qGW:XV.lin 84=[]:=by kernel_rfl
theorem qws:XV.env.code 84=some v84:=by kernel_rfl
@[simp] theorem qGe:XV.lin 133=[]:=by kernel_rfl
theorem qsw:XV.env.code 133=some qBS:=by kernel_rfl
@[simp] theorem qAK:XV.lin 146=[9,18,24,25,26,28]:=by kernel_rfl
theorem qsv:XV.env.code 146=some qzW:=by kernel_rfl
@[simp] theorem qGd:XV.lin 147=[4]:=by kernel_rfl
theorem qsu:XV.env.code 147=some qBR:=by kernel_rfl
@[simp] theorem qGc:XV.lin 150=[5,7]:=by kernel_rfl
theorem qst:XV.env.code 150=some qBQ:=by kernel_rfl
@[simp] theorem qAJ:XV.lin 151=[2,3,6,12,13,15,16,17,19]:=by kernel_rfl
theorem qss:XV.env.code 151=some qBP:=by kernel_rfl
@[simp] theorem quD:XV.lin 153=[13,27,36,41,42,51,52,53,54,63,64,65,67]:=by kernel_rfl
theorem qsr:XV.env.code 153=some qBO:=by kernel_rfl
@[simp] theorem qAI:XV.lin 154=[0,1,4,6,22,25,26,27,28,29,30,31,34,35]:=by kernel_rfl
theorem qsq:XV.env.code 154=some qBN:=by kernel_rfl
@[simp] theorem qGb:XV.lin 155=[0,8]:=by kernel_rfl
theorem qsp:XV.env.code 155=some qBM:=by kernel_rfl
@[simp] theorem qAH:XV.lin 156=[28,30]:=by kernel_rfl
theorem qso:XV.env.code 156=some qBL:=by kernel_rfl
@[simp] theorem qGa:XV.lin 159=[]:=by kernel_rfl
theorem qsn:XV.env.code 159=some qBK:=by kernel_rfl
@[simp] theorem qF9:XV.lin 160=[]:=by kernel_rfl
theorem qsm:XV.env.code 160=some qBJ:=by kernel_rfl
@[simp] theorem quC:XV.lin 161=[7,60,62,64,65,72,73]:=by kernel_rfl
theorem qsl:XV.env.code 161=some qBI:=by kernel_rfl
@[simp] theorem qF8:XV.lin 162=[]:=by kernel_rfl
theorem qsk:XV.env.code 162=some qBH:=by kernel_rfl
@[simp] theorem qF7:XV.lin 163=[9]:=by kernel_rfl
theorem qsj:XV.env.code 163=some qBG:=by kernel_rfl
@[simp] theorem qF6:XV.lin 164=[6,7]:=by kernel_rfl
theorem qlP:XV.env.code 164=some qyb:=by kernel_rfl
@[simp] theorem qF5:XV.lin 165=[]:=by kernel_rfl
theorem qsi:XV.env.code 165=some qzU:=by kernel_rfl
@[simp] theorem qiM:XV.lin 166=[8,24,28,36,37,40,45,46,47,50]:=by kernel_rfl
theorem qsh:XV.env.code 166=some qBF:=by kernel_rfl
@[simp] theorem qF4:XV.lin 170=[]:=by kernel_rfl
theorem qlO:XV.env.code 170=some qya:=by kernel_rfl
@[simp] theorem qF3:XV.lin 171=[]:=by kernel_rfl
theorem qlN:XV.env.code 171=some qx9:=by kernel_rfl
@[simp] theorem qF2:XV.lin 172=[46,50]:=by kernel_rfl
theorem qh3:XV.env.code 172=some qwf:=by kernel_rfl
@[simp] theorem qF1:XV.lin 173=[70,74,122,126]:=by kernel_rfl
theorem qh2:XV.env.code 173=some qwe:=by kernel_rfl
@[simp] theorem qF0:XV.lin 174=[]:=by kernel_rfl
theorem qsg:XV.env.code 174=some qBE:=by kernel_rfl
@[simp] theorem qFZ:XV.lin 175=[29,35]:=by kernel_rfl
theorem qsf:XV.env.code 175=some qBD:=by kernel_rfl
@[simp] theorem qFY:XV.lin 189=[10,14,16,18,21,31,66,69,72,73,78,82,92,93]:=by kernel_rfl
theorem qse:XV.env.code 189=some qwF:=by kernel_rfl
@[simp] theorem qFX:XV.lin 190=[2,5,11,13,14,16,17,18,19,20]:=by kernel_rfl
theorem qlM:XV.env.code 190=some qx8:=by kernel_rfl
@[simp] theorem qFW:XV.lin 191=[2,4,6,10,17,19,20,21,22,26]:=by kernel_rfl
theorem qsd:XV.env.code 191=some qBC:=by kernel_rfl
@[simp] theorem qFV:XV.lin 192=[14,15,27,43,46,48]:=by kernel_rfl
theorem qsc:XV.env.code 192=some qwd:=by kernel_rfl
@[simp] theorem qFU:XV.lin 193=[15,28,38,43]:=by kernel_rfl
theorem qsb:XV.env.code 193=some qwc:=by kernel_rfl
@[simp] theorem qFT:XV.lin 194=[2,9,13,14,15,16]:=by kernel_rfl
theorem qlL:XV.env.code 194=some qx7:=by kernel_rfl
@[simp] theorem qFS:XV.lin 195=[2,3,4,40,46,47,48]:=by kernel_rfl
theorem qsa:XV.env.code 195=some qrI:=by kernel_rfl
@[simp] theorem qFR:XV.lin 196=[]:=by kernel_rfl
theorem qr9:XV.env.code 196=some qBB:=by kernel_rfl
@[simp] theorem qAF:XV.lin 197=[2,3,5,12,17,18,19,20]:=by kernel_rfl
theorem qr8:XV.env.code 197=some qBA:=by kernel_rfl
@[simp] theorem qAG:XV.lin 169=[5,8,15,18,30,32,33,34,35,36,37,45,47]:=by kernel_rfl
theorem qr0:XV.env.code 169=none:=by kernel_rfl
theorem qrT:XV.env.spec 169=some ql1:=by kernel_rfl
theorem qG7(X:XEnv)(T:List Nat)(na:Nat)(live:List Nat)(r:List (Nat×AV))(B:qak):qax X T (.region true na live qFG) ⟨r,B⟩=qes live (qcI (qai X) X.lin T true B.length [
 ⟨some 34,.fieldAddr 2 (.t 2),none,[]⟩,
 ⟨some 35,.load false 1 (.t 34),none,[0]⟩,
 ⟨some 36,.move (.t 5),none,[]⟩,
 ⟨some 37,.indexAddr 3 none (.t 35) (.t 36),none,[1,2]⟩,
 ⟨some 38,.load true 3 (.t 37),none,[3]⟩,
 ⟨some 39,.fieldAddr 2 (.t 3),none,[]⟩,
 ⟨some 40,.load false 1 (.t 39),none,[5]⟩,
 ⟨some 41,.move (.t 5),none,[]⟩,
 ⟨some 42,.indexAddr 3 none (.t 40) (.t 41),none,[6,7]⟩,
 ⟨some 43,.load true 3 (.t 42),none,[8]⟩,
 ⟨some 44,.call true (.c (.fn 3 [])) [.t 38,.t 43],none,[4,9]⟩,
 ⟨some 45,.not (.t 44),none,[10]⟩] ⟨r,B++List.replicate na none⟩):=qbX X T na live qFG (by kernel_rfl) r B
theorem qxC(X:XEnv)(T:List Nat)(na:Nat)(live:List Nat)(r:List (Nat×AV))(B:qak):qax X T (.region true na live qAh) ⟨r,B⟩=qes live (qcI (qai X) X.lin T true B.length [
 ⟨some 51,.fieldAddr 2 (.t 2),none,[]⟩,
 ⟨some 52,.load false 1 (.t 51),none,[0]⟩,
 ⟨some 53,.move (.t 7),none,[]⟩,
 ⟨some 54,.indexAddr 3 none (.t 52) (.t 53),none,[1,2]⟩,
 ⟨some 55,.load true 3 (.t 54),none,[3]⟩,
 ⟨some 56,.fieldAddr 2 (.t 3),none,[]⟩,
 ⟨some 57,.load false 1 (.t 56),none,[5]⟩,
 ⟨some 58,.move (.t 7),none,[]⟩,
 ⟨some 59,.indexAddr 3 none (.t 57) (.t 58),none,[6,7]⟩,
 ⟨some 60,.load true 3 (.t 59),none,[8]⟩,
 ⟨some 61,.call true (.c (.fn 6 [])) [.t 55,.t 60],none,[4,9]⟩,
 ⟨some 8,.move (.t 61),none,[0,1,2,3,4,5,6,7,8,9,10]⟩] ⟨r,B++List.replicate na none⟩):=qbX X T na live qAh (by kernel_rfl) r B
theorem qhu(X:XEnv)(T:List Nat)(na:Nat)(live:List Nat)(r:List (Nat×AV))(B:qak):qax X T (.region true na live qs4) ⟨r,B⟩=qes live (qcI (qai X) X.lin T true B.length [
 ⟨some 47,.fieldAddr 2 (.t 2),none,[]⟩,
 ⟨some 48,.load false 1 (.t 47),none,[0]⟩,
 ⟨some 49,.move (.t 5),none,[]⟩,
 ⟨some 50,.indexAddr 3 none (.t 48) (.t 49),none,[1,2]⟩,
 ⟨some 51,.load true 3 (.t 50),none,[3]⟩,
 ⟨some 52,.fieldAddr 2 (.t 3),none,[]⟩,
 ⟨some 53,.load false 1 (.t 52),none,[5]⟩,
 ⟨some 54,.move (.t 5),none,[]⟩,
 ⟨some 55,.indexAddr 3 none (.t 53) (.t 54),none,[6,7]⟩,
 ⟨some 56,.load true 3 (.t 55),none,[8]⟩,
 ⟨some 57,.call true (.c (.fn 3 [])) [.t 51,.t 56],none,[4,9]⟩,
 ⟨some 58,.not (.t 57),none,[10]⟩] ⟨r,B++List.replicate na none⟩):=qbX X T na live qs4 (by kernel_rfl) r B
theorem qht(X:XEnv)(T:List Nat)(na:Nat)(live:List Nat)(r:List (Nat×AV))(B:qak):qax X T (.region true na live qs3) ⟨r,B⟩=qes live (qcI (qai X) X.lin T true B.length [
 ⟨some 59,.fieldAddr 2 (.t 2),none,[]⟩,
 ⟨some 60,.load false 1 (.t 59),none,[0]⟩,
 ⟨some 61,.move (.t 5),none,[]⟩,
 ⟨some 62,.indexAddr 3 none (.t 60) (.t 61),none,[1,2]⟩,
 ⟨some 63,.load true 3 (.t 62),none,[3]⟩,
 ⟨some 64,.fieldAddr 2 (.t 3),none,[]⟩,
 ⟨some 65,.load false 1 (.t 64),none,[5]⟩,
 ⟨some 66,.move (.t 5),none,[]⟩,
 ⟨some 67,.indexAddr 3 none (.t 65) (.t 66),none,[6,7]⟩,
 ⟨some 68,.load true 3 (.t 67),none,[8]⟩,
 ⟨some 69,.call true (.c (.fn 84 [])) [.t 63,.t 68],none,[4,9]⟩,
 ⟨some 4,.move (.t 69),none,[0,1,2,3,4,5,6,7,8,9,10]⟩] ⟨r,B++List.replicate na none⟩):=qbX X T na live qs3 (by kernel_rfl) r B
theorem qpX(X:XEnv)(T:List Nat)(na:Nat)(live:List Nat)(r:List (Nat×AV))(B:qak):qax X T (.region true na live qul) ⟨r,B⟩=qes live (qcI (qai X) X.lin T true B.length [
 ⟨some 17,.fieldAddr 2 (.t 3),none,[]⟩,
 ⟨some 18,.load false 1 (.t 17),none,[0]⟩,
 ⟨some 19,.fieldAddr 2 (.t 1),none,[]⟩,
 ⟨some 20,.load false 1 (.t 19),none,[2]⟩,
 ⟨some 21,.move (.t 4),none,[]⟩,
 ⟨some 22,.indexAddr 3 none (.t 20) (.t 21),none,[3,4]⟩,
 ⟨some 23,.load true 3 (.t 22),none,[5]⟩,
 ⟨some 24,.call true (.c (.fn 146 [])) [.t 23],none,[6]⟩,
 ⟨some 25,.buildSlice 3 (.agg [.int .i64 0,.int .i64 0,.sl .nil []]) 1 [(0,.t 24)],none,[7]⟩,
 ⟨some 26,.append 3 40 (.t 18) (.t 25),none,[1,7,8]⟩,
 ⟨some 27,.fieldAddr 2 (.t 3),none,[0,1,2,3,4,5,6,7,8,9]⟩,
 ⟨none,.store false 1 (.t 27) (.t 26),none,[0,1,2,3,4,5,6,7,8,9,10]⟩] ⟨r,B++List.replicate na none⟩):=qbX X T na live qul (by kernel_rfl) r B
theorem qi5(X:XEnv)(T:List Nat)(na:Nat)(live:List Nat)(r:List (Nat×AV))(B:qak):qax X T (.regionF true na live qug) ⟨r,B⟩=qes live (xFs (qai X) X.lin T true B.length [
 .one ⟨some 35,.fieldAddr 2 (.t 5),none,[]⟩,
 .one ⟨some 36,.load false 1 (.t 35),none,[0]⟩,
 .one ⟨some 37,.fieldAddr 2 (.t 7),none,[]⟩,
 .el 38 37 39 (.t 8) 40 3 41 [2] [] [3,4] [5],
 .one ⟨some 42,.call false (.c (.fn 154 [])) [.t 36,.t 41],none,[1,6]⟩,
 .one ⟨some 43,.fieldAddr 2 (.t 5),none,[0,1,2,3,4,5,6,7]⟩,
 .one ⟨none,.store false 1 (.t 43) (.t 42),none,[0,1,2,3,4,5,6,7,8]⟩] ⟨r,B++List.replicate na none⟩):=qzo X T na live qug (by kernel_rfl) r B
theorem qvF(X:XEnv)(T:List Nat)(na:Nat)(live:List Nat)(r:List (Nat×AV))(B:qak):qax X T (.region true na live quf) ⟨r,B⟩=qes live (qcI (qai X) X.lin T true B.length [
 ⟨some 7,.move (.t 5),none,[]⟩,
 ⟨some 8,.move (.t 0),none,[]⟩,
 ⟨some 9,.len false (.t 8),none,[1]⟩,
 ⟨some 10,.bin .lss (.t 7) (.t 9),none,[0,2]⟩,
 ⟨some 11,.move (.t 10),none,[3]⟩,
 ⟨some 12,.load true 3 (.t 3),some (11,true),[4]⟩,
 ⟨some 13,.move (.t 0),some (11,true),[4]⟩,
 ⟨some 14,.move (.t 5),some (11,true),[4]⟩,
 ⟨some 15,.indexAddr 3 none (.t 13) (.t 14),some (11,true),[4,6,7]⟩,
 ⟨some 16,.load true 3 (.t 15),some (11,true),[4,8]⟩,
 ⟨some 17,.call true (.c (.fn 84 [])) [.t 12,.t 16],some (11,true),[4,5,9]⟩,
 ⟨some 18,.not (.t 17),some (11,true),[4,10]⟩,
 ⟨some 19,.pick (.t 11) (.t 18) (.c (.d (.bool false))),none,[4,11]⟩] ⟨r,B++List.replicate na none⟩):=qbX X T na live quf (by kernel_rfl) r B
theorem qD5(X:XEnv)(T:List Nat)(na:Nat)(live:List Nat)(r:List (Nat×AV))(B:qak):qax X T (.region true na live qmo) ⟨r,B⟩=qes live (qcI (qai X) X.lin T true B.length [
 ⟨some 25,.move (.t 4),none,[]⟩,
 ⟨some 26,.nilCheck (.t 25),none,[0]⟩,
 ⟨some 27,.fieldAddr 2 (.t 26),none,[1]⟩,
 ⟨some 28,.loadS false 1 (.t 27) 0,none,[2]⟩,
 ⟨some 29,.move (.t 0),none,[]⟩,
 ⟨some 30,.move (.t 4),none,[]⟩,
 ⟨some 31,.nilCheck (.t 30),none,[5]⟩,
 ⟨some 32,.fieldAddr 2 (.t 31),none,[6]⟩,
 ⟨some 33,.load false 1 (.t 32),none,[7]⟩,
 ⟨some 34,.len false (.t 33),none,[8]⟩,
 ⟨some 35,.callS 0 (.c (.fn 159 [])) [.t 29,.t 34],none,[4,9]⟩,
 ⟨some 36,.indexAddr 3 none (.t 28) (.t 35),none,[3,10]⟩,
 ⟨some 4,.move (.t 36),none,[0,1,2,3,4,5,6,7,8,9,10,11]⟩] ⟨r,B++List.replicate na none⟩):=qbX X T na live qmo (by kernel_rfl) r B
theorem qBd(X:XEnv)(T:List Nat)(na:Nat)(live:List Nat)(r:List (Nat×AV))(B:qak):qax X T (.regionT na live qk6 qfP) ⟨r,B⟩=xTl (qai X) X.lin T B.length live [
 ⟨some 65,.append1 3 40 (.t 60) (.t 64) (.t 63) (.t 62) 66,none,[]⟩,
 ⟨some 67,.nilCheck (.t 57),none,[]⟩,
 ⟨some 68,.fieldAddr 2 (.t 67),none,[]⟩,
 ⟨none,.store false 1 (.t 68) (.t 65),none,[]⟩] (qcI (qai X) X.lin T true B.length [
 ⟨some 57,.move (.t 4),none,[]⟩,
 ⟨some 58,.nilCheck (.t 57),none,[0]⟩,
 ⟨some 59,.fieldAddr 2 (.t 58),none,[1]⟩,
 ⟨some 60,.loadS false 1 (.t 59) 0,none,[2]⟩,
 ⟨some 61,.move (.t 0),none,[]⟩,
 ⟨some 62,.callS 0 (.c (.fn 166 [])) [.t 61,.c (.d (.int .i64 1)),.c (.d (.int .i64 2))],none,[4]⟩,
 ⟨some 63,.len false (.t 60),none,[3]⟩,
 ⟨some 64,.buildSlice 3 (.agg [.int .i64 0,.int .i64 0,.sl .nil []]) 1 [(0,.c (.d (.agg [.int .i64 0,.int .i64 0,.sl .nil []])))],none,[]⟩] ⟨r,B++List.replicate na none⟩):=qrM X T na live qk6 qfP (by kernel_rfl) r B
theorem qzc(X:XEnv)(T:List Nat)(na:Nat)(live:List Nat)(r:List (Nat×AV))(B:qak):qax X T (.region true na live qt5) ⟨r,B⟩=qes live (qcI (qai X) X.lin T true B.length [
 ⟨some 13,.move (.t 0),none,[]⟩,
 ⟨some 14,.nilCheck (.t 13),none,[0]⟩,
 ⟨some 15,.fieldAddr 2 (.t 14),none,[1]⟩,
 ⟨some 16,.load false 1 (.t 15),none,[2]⟩,
 ⟨some 17,.bin .shr (.t 16) (.c (.d (.int .u64 33))),none,[3]⟩,
 ⟨some 18,.move (.t 0),none,[]⟩,
 ⟨some 19,.nilCheck (.t 18),none,[5]⟩,
 ⟨some 20,.fieldAddr 2 (.t 19),none,[6]⟩,
 ⟨some 21,.load false 1 (.t 20),none,[7]⟩,
 ⟨some 22,.bin .shr (.t 21) (.c (.d (.int .u64 45))),none,[8]⟩,
 ⟨some 23,.bin .xor (.t 17) (.t 22),none,[4,9]⟩,
 ⟨some 24,.bin .and (.t 23) (.c (.d (.int .i64 255))),none,[10]⟩,
 ⟨some 3,.move (.t 24),none,[0,1,2,3,4,5,6,7,8,9,10,11]⟩] ⟨r,B++List.replicate na none⟩):=qbX X T na live qt5 (by kernel_rfl) r B
theorem qzb(X:XEnv)(T:List Nat)(na:Nat)(live:List Nat)(r:List (Nat×AV))(B:qak):qax X T (.region true na live qt4) ⟨r,B⟩=qes live (qcI (qai X) X.lin T true B.length [
 ⟨some 25,.move (.t 0),none,[]⟩,
 ⟨some 26,.nilCheck (.t 25),none,[0]⟩,
 ⟨some 27,.fieldAddr 1 (.t 26),none,[1]⟩,
 ⟨some 28,.load false 1 (.t 27),none,[2]⟩,
 ⟨some 29,.move (.t 0),none,[]⟩,
 ⟨some 30,.nilCheck (.t 29),none,[4]⟩,
 ⟨some 31,.fieldAddr 0 (.t 30),none,[5]⟩,
 ⟨some 32,.load false 1 (.t 31),none,[6]⟩,
 ⟨some 33,.len false (.t 32),none,[7]⟩,
 ⟨some 34,.bin .lss (.t 28) (.t 33),none,[3,8]⟩] ⟨r,B++List.replicate na none⟩):=qbX X T na live qt4 (by kernel_rfl) r B
theorem qza(X:XEnv)(T:List Nat)(na:Nat)(live:List Nat)(r:List (Nat×AV))(B:qak):qax X T (.region true na live qt3) ⟨r,B⟩=qes live (qcI (qai X) X.lin T true B.length [
 ⟨some 35,.move (.t 3),none,[]⟩,
 ⟨some 36,.move (.t 0),none,[]⟩,
 ⟨some 37,.nilCheck (.t 36),none,[1]⟩,
 ⟨some 38,.fieldAddr 0 (.t 37),none,[2]⟩,
 ⟨some 39,.load false 1 (.t 38),none,[3]⟩,
 ⟨some 40,.move (.t 0),none,[]⟩,
 ⟨some 41,.nilCheck (.t 40),none,[5]⟩,
 ⟨some 42,.fieldAddr 1 (.t 41),none,[6]⟩,
 ⟨some 43,.load false 1 (.t 42),none,[7]⟩,
 ⟨some 44,.indexAddr 1 none (.t 39) (.t 43),none,[4,8]⟩,
 ⟨some 45,.load false 1 (.t 44),none,[9]⟩,
 ⟨some 46,.conv (.kind .i64) (.t 45),none,[10]⟩,
 ⟨some 47,.bin .add (.t 35) (.t 46),none,[0,11]⟩,
 ⟨some 48,.bin .and (.t 47) (.c (.d (.int .i64 255))),none,[12]⟩,
 ⟨some 3,.move (.t 48),none,[0,1,2,3,4,5,6,7,8,9,10,11,12,13]⟩] ⟨r,B++List.replicate na none⟩):=qbX X T na live qt3 (by kernel_rfl) r B
theorem qy9(X:XEnv)(T:List Nat)(na:Nat)(live:List Nat)(r:List (Nat×AV))(B:qak):qax X T (.region true na live qpb) ⟨r,B⟩=qes live (qcI (qai X) X.lin T true B.length [
 ⟨some 18,.move (.t 9),none,[]⟩,
 ⟨some 19,.move (.t 1),none,[]⟩,
 ⟨some 20,.bin .gtr (.t 18) (.t 19),none,[0,1]⟩,
 ⟨some 21,.move (.t 20),none,[2]⟩,
 ⟨some 22,.move (.t 3),some (21,true),[3]⟩,
 ⟨some 23,.move (.t 0),some (21,true),[3]⟩,
 ⟨some 24,.move (.t 9),some (21,true),[3]⟩,
 ⟨some 25,.indexAddr 3 none (.t 23) (.t 24),some (21,true),[3,5,6]⟩,
 ⟨some 26,.load true 3 (.t 25),some (21,true),[3,7]⟩,
 ⟨some 27,.move (.t 0),some (21,true),[3]⟩,
 ⟨some 28,.move (.t 9),some (21,true),[3]⟩,
 ⟨some 29,.bin .sub (.t 28) (.c (.d (.int .i64 1))),some (21,true),[3,10]⟩,
 ⟨some 30,.indexAddr 3 none (.t 27) (.t 29),some (21,true),[3,9,11]⟩,
 ⟨some 31,.load true 3 (.t 30),some (21,true),[3,12]⟩,
 ⟨some 32,.call false (.t 22) [.t 26,.t 31],some (21,true),[3,4,8,13]⟩,
 ⟨some 33,.bin .lss (.t 32) (.c (.d (.int .i64 0))),some (21,true),[3,14]⟩,
 ⟨some 34,.pick (.t 21) (.t 33) (.c (.d (.bool false))),none,[3,15]⟩] ⟨r,B++List.replicate na none⟩):=qbX X T na live qpb (by kernel_rfl) r B
theorem qy8(X:XEnv)(T:List Nat)(na:Nat)(live:List Nat)(r:List (Nat×AV))(B:qak):qax X T (.region true na live qpa) ⟨r,B⟩=qes live (qcI (qai X) X.lin T true B.length [
 ⟨some 37,.move (.t 0),none,[]⟩,
 ⟨some 38,.move (.t 9),none,[]⟩,
 ⟨some 39,.move (.t 0),none,[]⟩,
 ⟨some 40,.move (.t 9),none,[]⟩,
 ⟨some 41,.bin .sub (.t 40) (.c (.d (.int .i64 1))),none,[3]⟩,
 ⟨some 42,.move (.t 0),none,[]⟩,
 ⟨some 43,.move (.t 9),none,[]⟩,
 ⟨some 44,.bin .sub (.t 43) (.c (.d (.int .i64 1))),none,[6]⟩,
 ⟨some 45,.indexAddr 3 none (.t 42) (.t 44),none,[5,7]⟩,
 ⟨some 46,.load true 3 (.t 45),none,[8]⟩,
 ⟨some 47,.move (.t 0),none,[]⟩,
 ⟨some 48,.move (.t 9),none,[]⟩,
 ⟨some 49,.indexAddr 3 none (.t 47) (.t 48),none,[10,11]⟩,
 ⟨some 50,.load true 3 (.t 49),none,[12]⟩,
 ⟨some 51,.indexAddr 3 none (.t 37) (.t 38),none,[0,1,5,6,7,8,9,13]⟩,
 ⟨none,.store false 3 (.t 51) (.t 46),none,[0,1,5,6,7,8,9,13,14]⟩,
 ⟨some 52,.indexAddr 3 none (.t 39) (.t 41),none,[0,1,2,3,4,5,6,7,8,9,10,11,12,13,14,15]⟩,
 ⟨none,.store false 3 (.t 52) (.t 50),none,[0,1,2,3,4,5,6,7,8,9,10,11,12,13,14,15,16]⟩] ⟨r,B++List.replicate na none⟩):=qbX X T na live qpa (by kernel_rfl) r B
theorem qD4(X:XEnv)(T:List Nat)(na:Nat)(live:List Nat)(r:List (Nat×AV))(B:qak):qax X T (.region true na live qo8) ⟨r,B⟩=qes live (qcI (qai X) X.lin T true B.length [
 ⟨some 40,.move (.t 4),none,[]⟩,
 ⟨some 41,.move (.t 0),none,[]⟩,
 ⟨some 42,.move (.t 12),none,[]⟩,
 ⟨some 43,.indexAddr 3 none (.t 41) (.t 42),none,[1,2]⟩,
 ⟨some 44,.load true 3 (.t 43),none,[3]⟩,
 ⟨some 45,.move (.t 0),none,[]⟩,
 ⟨some 46,.move (.t 1),none,[]⟩,
 ⟨some 47,.indexAddr 3 none (.t 45) (.t 46),none,[5,6]⟩,
 ⟨some 48,.load true 3 (.t 47),none,[7]⟩,
 ⟨some 49,.call false (.t 40) [.t 44,.t 48],none,[0,4,8]⟩,
 ⟨some 50,.bin .lss (.t 49) (.c (.d (.int .i64 0))),none,[9]⟩] ⟨r,B++List.replicate na none⟩):=qbX X T na live qo8 (by kernel_rfl) r B
theorem qBc(X:XEnv)(T:List Nat)(na:Nat)(live:List Nat)(r:List (Nat×AV))(B:qak):qax X T (.region true na live qk3) ⟨r,B⟩=qes live (qcI (qai X) X.lin T true B.length [
 ⟨some 61,.move (.t 0),none,[]⟩,
 ⟨some 62,.move (.t 13),none,[]⟩,
 ⟨some 63,.move (.t 0),none,[]⟩,
 ⟨some 64,.move (.t 13),none,[]⟩,
 ⟨some 65,.bin .add (.t 64) (.c (.d (.int .i64 1))),none,[3]⟩,
 ⟨some 66,.move (.t 0),none,[]⟩,
 ⟨some 67,.move (.t 13),none,[]⟩,
 ⟨some 68,.bin .add (.t 67) (.c (.d (.int .i64 1))),none,[6]⟩,
 ⟨some 69,.indexAddr 3 none (.t 66) (.t 68),none,[5,7]⟩,
 ⟨some 70,.load true 3 (.t 69),none,[8]⟩,
 ⟨some 71,.move (.t 0),none,[]⟩,
 ⟨some 72,.move (.t 13),none,[]⟩,
 ⟨some 73,.indexAddr 3 none (.t 71) (.t 72),none,[10,11]⟩,
 ⟨some 74,.load true 3 (.t 73),none,[12]⟩,
 ⟨some 75,.indexAddr 3 none (.t 61) (.t 62),none,[0,1,5,6,7,8,9,13]⟩,
 ⟨none,.store false 3 (.t 75) (.t 70),none,[0,1,5,6,7,8,9,13,14]⟩,
 ⟨some 76,.indexAddr 3 none (.t 63) (.t 65),none,[0,1,2,3,4,5,6,7,8,9,10,11,12,13,14,15]⟩,
 ⟨none,.store false 3 (.t 76) (.t 74),none,[0,1,2,3,4,5,6,7,8,9,10,11,12,13,14,15,16]⟩] ⟨r,B++List.replicate na none⟩):=qbX X T na live qk3 (by kernel_rfl) r B
theorem qvE(X:XEnv)(T:List Nat)(na:Nat)(live:List Nat)(r:List (Nat×AV))(B:qak):qax X T (.region true na live qk0) ⟨r,B⟩=qes live (qcI (qai X) X.lin T true B.length [
 ⟨some 92,.move (.t 4),none,[]⟩,
 ⟨some 93,.move (.t 0),none,[]⟩,
 ⟨some 94,.move (.t 2),none,[]⟩,
 ⟨some 95,.indexAddr 3 none (.t 93) (.t 94),none,[1,2]⟩,
 ⟨some 96,.load true 3 (.t 95),none,[3]⟩,
 ⟨some 97,.move (.t 0),none,[]⟩,
 ⟨some 98,.move (.t 16),none,[]⟩,
 ⟨some 99,.indexAddr 3 none (.t 97) (.t 98),none,[5,6]⟩,
 ⟨some 100,.load true 3 (.t 99),none,[7]⟩,
 ⟨some 101,.call false (.t 92) [.t 96,.t 100],none,[0,4,8]⟩,
 ⟨some 102,.bin .lss (.t 101) (.c (.d (.int .i64 0))),none,[9]⟩,
 ⟨some 103,.not (.t 102),none,[10]⟩] ⟨r,B++List.replicate na none⟩):=qbX X T na live qk0 (by kernel_rfl) r B
theorem qBb(X:XEnv)(T:List Nat)(na:Nat)(live:List Nat)(r:List (Nat×AV))(B:qak):qax X T (.region true na live qkZ) ⟨r,B⟩=qes live (qcI (qai X) X.lin T true B.length [
 ⟨some 113,.move (.t 0),none,[]⟩,
 ⟨some 114,.move (.t 17),none,[]⟩,
 ⟨some 115,.move (.t 0),none,[]⟩,
 ⟨some 116,.move (.t 17),none,[]⟩,
 ⟨some 117,.bin .sub (.t 116) (.c (.d (.int .i64 1))),none,[3]⟩,
 ⟨some 118,.move (.t 0),none,[]⟩,
 ⟨some 119,.move (.t 17),none,[]⟩,
 ⟨some 120,.bin .sub (.t 119) (.c (.d (.int .i64 1))),none,[6]⟩,
 ⟨some 121,.indexAddr 3 none (.t 118) (.t 120),none,[5,7]⟩,
 ⟨some 122,.load true 3 (.t 121),none,[8]⟩,
 ⟨some 123,.move (.t 0),none,[]⟩,
 ⟨some 124,.move (.t 17),none,[]⟩,
 ⟨some 125,.indexAddr 3 none (.t 123) (.t 124),none,[10,11]⟩,
 ⟨some 126,.load true 3 (.t 125),none,[12]⟩,
 ⟨some 127,.indexAddr 3 none (.t 113) (.t 114),none,[0,1,5,6,7,8,9,13]⟩,
 ⟨none,.store false 3 (.t 127) (.t 122),none,[0,1,5,6,7,8,9,13,14]⟩,
 ⟨some 128,.indexAddr 3 none (.t 115) (.t 117),none,[0,1,2,3,4,5,6,7,8,9,10,11,12,13,14,15]⟩,
 ⟨none,.store false 3 (.t 128) (.t 126),none,[0,1,2,3,4,5,6,7,8,9,10,11,12,13,14,15,16]⟩] ⟨r,B++List.replicate na none⟩):=qbX X T na live qkZ (by kernel_rfl) r B
theorem qvD(X:XEnv)(T:List Nat)(na:Nat)(live:List Nat)(r:List (Nat×AV))(B:qak):qax X T (.region true na live qkX) ⟨r,B⟩=qes live (qcI (qai X) X.lin T true B.length [
 ⟨some 158,.move (.t 4),none,[]⟩,
 ⟨some 159,.move (.t 0),none,[]⟩,
 ⟨some 160,.move (.t 22),none,[]⟩,
 ⟨some 161,.move (.t 23),none,[]⟩,
 ⟨some 162,.bin .sub (.t 160) (.t 161),none,[2,3]⟩,
 ⟨some 163,.indexAddr 3 none (.t 159) (.t 162),none,[1,4]⟩,
 ⟨some 164,.load true 3 (.t 163),none,[5]⟩,
 ⟨some 165,.move (.t 0),none,[]⟩,
 ⟨some 166,.move (.t 23),none,[]⟩,
 ⟨some 167,.indexAddr 3 none (.t 165) (.t 166),none,[7,8]⟩,
 ⟨some 168,.load true 3 (.t 167),none,[9]⟩,
 ⟨some 169,.call false (.t 158) [.t 164,.t 168],none,[0,6,10]⟩,
 ⟨some 170,.bin .lss (.t 169) (.c (.d (.int .i64 0))),none,[11]⟩,
 ⟨some 171,.not (.t 170),none,[12]⟩] ⟨r,B++List.replicate na none⟩):=qbX X T na live qkX (by kernel_rfl) r B
theorem qD3(X:XEnv)(T:List Nat)(na:Nat)(live:List Nat)(r:List (Nat×AV))(B:qak):qax X T (.region true na live qo3) ⟨r,B⟩=qes live (qcI (qai X) X.lin T true B.length [
 ⟨some 16,.move (.t 0),none,[]⟩,
 ⟨some 17,.move (.t 1),none,[]⟩,
 ⟨some 18,.move (.t 10),none,[]⟩,
 ⟨some 19,.bin .add (.t 17) (.t 18),none,[1,2]⟩,
 ⟨some 20,.move (.t 0),none,[]⟩,
 ⟨some 21,.move (.t 2),none,[]⟩,
 ⟨some 22,.move (.t 10),none,[]⟩,
 ⟨some 23,.bin .add (.t 21) (.t 22),none,[5,6]⟩,
 ⟨some 24,.move (.t 0),none,[]⟩,
 ⟨some 25,.move (.t 2),none,[]⟩,
 ⟨some 26,.move (.t 10),none,[]⟩,
 ⟨some 27,.bin .add (.t 25) (.t 26),none,[9,10]⟩,
 ⟨some 28,.indexAddr 3 none (.t 24) (.t 27),none,[8,11]⟩,
 ⟨some 29,.load true 3 (.t 28),none,[12]⟩,
 ⟨some 30,.move (.t 0),none,[]⟩,
 ⟨some 31,.move (.t 1),none,[]⟩,
 ⟨some 32,.move (.t 10),none,[]⟩,
 ⟨some 33,.bin .add (.t 31) (.t 32),none,[15,16]⟩,
 ⟨some 34,.indexAddr 3 none (.t 30) (.t 33),none,[14,17]⟩,
 ⟨some 35,.load true 3 (.t 34),none,[18]⟩,
 ⟨some 36,.indexAddr 3 none (.t 16) (.t 19),none,[0,1,2,3,8,9,10,11,12,13,19]⟩,
 ⟨none,.store false 3 (.t 36) (.t 29),none,[0,1,2,3,8,9,10,11,12,13,19,20]⟩,
 ⟨some 37,.indexAddr 3 none (.t 20) (.t 23),none,[0,1,2,3,4,5,6,7,8,9,10,11,12,13,14,15,16,17,18,19,20,21]⟩,
 ⟨none,.store false 3 (.t 37) (.t 35),none,[0,1,2,3,4,5,6,7,8,9,10,11,12,13,14,15,16,17,18,19,20,21,22]⟩] ⟨r,B++List.replicate na none⟩):=qbX X T na live qo3 (by kernel_rfl) r B
theorem qpW(X:XEnv)(T:List Nat)(na:Nat)(live:List Nat)(r:List (Nat×AV))(B:qak):qax X T (.region true na live qtt) ⟨r,B⟩=qes live (qcI (qai X) X.lin T true B.length [
 ⟨some 32,.load true 3 (.t 5),none,[]⟩,
 ⟨some 33,.move (.t 3),none,[]⟩,
 ⟨some 34,.load true 3 (.t 4),none,[]⟩,
 ⟨some 35,.call true (.c (.fn 153 [])) [.t 33,.t 34],none,[1,2]⟩,
 ⟨some 36,.call true (.c (.fn 4 [])) [.t 32,.t 35],none,[0,3]⟩,
 ⟨some 37,.not (.t 36),none,[4]⟩,
 ⟨some 38,.move (.t 37),none,[4,5]⟩,
 ⟨some 39,.load true 3 (.t 9),some (38,false),[6]⟩,
 ⟨some 40,.move (.t 6),some (38,false),[6]⟩,
 ⟨some 41,.move (.t 7),some (38,false),[6]⟩,
 ⟨some 42,.move (.t 8),some (38,false),[6]⟩,
 ⟨some 43,.call true (.c (.fn 193 [])) [.t 40,.t 41,.t 42],some (38,false),[6,8,9,10]⟩,
 ⟨some 44,.call true (.c (.fn 4 [])) [.t 39,.t 43],some (38,false),[6,7,11]⟩,
 ⟨some 45,.not (.t 44),some (38,false),[6,12]⟩,
 ⟨some 46,.pick (.t 38) (.c (.d (.bool true))) (.t 45),none,[6,13]⟩,
 ⟨some 47,.move (.t 46),none,[12,14]⟩,
 ⟨some 48,.move (.t 3),some (47,false),[15]⟩,
 ⟨some 49,.load true 3 (.t 5),some (47,false),[15]⟩,
 ⟨some 50,.call true (.c (.fn 169 [])) [.t 48,.t 49],some (47,false),[15,16,17]⟩,
 ⟨some 51,.load true 3 (.t 5),some (47,false),[15]⟩,
 ⟨some 52,.call true (.c (.fn 4 [])) [.t 50,.t 51],some (47,false),[15,18,19]⟩,
 ⟨some 53,.not (.t 52),some (47,false),[15,20]⟩,
 ⟨some 54,.pick (.t 47) (.c (.d (.bool true))) (.t 53),none,[15,21]⟩] ⟨r,B++List.replicate na none⟩):=qbX X T na live qtt (by kernel_rfl) r B
theorem qls(X:XEnv)(T:List Nat)(na:Nat)(live:List Nat)(r:List (Nat×AV))(B:qak):qax X T (.region true na live qnW) ⟨r,B⟩=qes live (qcI (qai X) X.lin T true B.length [
 ⟨some 64,.move (.t 8),none,[]⟩,
 ⟨some 65,.indexAddr 3 none (.t 64) (.c (.d (.int .i64 2))),none,[0]⟩,
 ⟨some 66,.load true 3 (.t 65),none,[1]⟩,
 ⟨some 67,.move (.t 8),none,[]⟩,
 ⟨some 68,.indexAddr 3 none (.t 67) (.c (.d (.int .i64 0))),none,[3]⟩,
 ⟨some 69,.load true 3 (.t 68),none,[4]⟩,
 ⟨some 70,.move (.t 8),none,[]⟩,
 ⟨some 71,.indexAddr 3 none (.t 70) (.c (.d (.int .i64 1))),none,[6]⟩,
 ⟨some 72,.load true 3 (.t 71),none,[7]⟩,
 ⟨some 73,.buildSlice 3 (.agg [.int .i64 0,.int .i64 0,.sl .nil []]) 3 [(0,.t 66),(1,.t 69),(2,.t 72)],none,[2,5,8]⟩,
 ⟨some 10,.move (.t 73),none,[0,1,2,3,4,5,6,7,8,9]⟩] ⟨r,B++List.replicate na none⟩):=qbX X T na live qnW (by kernel_rfl) r B
theorem qlr(X:XEnv)(T:List Nat)(na:Nat)(live:List Nat)(r:List (Nat×AV))(B:qak):qax X T (.region true na live qnV) ⟨r,B⟩=qes live (qcI (qai X) X.lin T true B.length [
 ⟨some 79,.load true 3 (.t 9),none,[]⟩,
 ⟨some 80,.move (.t 6),none,[]⟩,
 ⟨some 81,.move (.t 7),none,[]⟩,
 ⟨some 82,.move (.t 10),none,[]⟩,
 ⟨some 83,.move (.t 8),none,[]⟩,
 ⟨some 84,.slice false 3 (.t 83) (some (.c (.d (.int .i64 3)))) none,none,[4]⟩,
 ⟨some 85,.append 3 40 (.t 82) (.t 84),none,[3,5]⟩,
 ⟨some 86,.call true (.c (.fn 192 [])) [.t 80,.t 81,.t 85],none,[1,2,6]⟩,
 ⟨some 87,.call true (.c (.fn 4 [])) [.t 79,.t 86],none,[0,7]⟩,
 ⟨some 88,.move (.t 87),none,[8]⟩,
 ⟨some 89,.load true 3 (.t 9),some (88,true),[9]⟩,
 ⟨some 90,.move (.t 6),some (88,true),[9]⟩,
 ⟨some 91,.move (.t 7),some (88,true),[9]⟩,
 ⟨some 92,.load true 3 (.t 11),some (88,true),[9]⟩,
 ⟨some 93,.buildSlice 3 (.agg [.int .i64 0,.int .i64 0,.sl .nil []]) 1 [(0,.t 92)],some (88,true),[9,13]⟩,
 ⟨some 94,.move (.t 8),some (88,true),[9]⟩,
 ⟨some 95,.slice false 3 (.t 94) (some (.c (.d (.int .i64 2)))) none,some (88,true),[9,15]⟩,
 ⟨some 96,.append 3 40 (.t 93) (.t 95),some (88,true),[9,14,16]⟩,
 ⟨some 97,.call true (.c (.fn 192 [])) [.t 90,.t 91,.t 96],some (88,true),[9,11,12,17]⟩,
 ⟨some 98,.call true (.c (.fn 4 [])) [.t 89,.t 97],some (88,true),[9,10,18]⟩,
 ⟨some 99,.pick (.t 88) (.t 98) (.c (.d (.bool false))),none,[9,19]⟩,
 ⟨some 2,.move (.t 99),none,[0,1,2,3,4,5,6,7,8,9,10,11,12,13,14,15,16,17,18,19,20]⟩] ⟨r,B++List.replicate na none⟩):=qbX X T na live qnV (by kernel_rfl) r B
theorem qy7(X:XEnv)(T:List Nat)(na:Nat)(live:List Nat)(r:List (Nat×AV))(B:qak):qax X T (.region true na live qtn) ⟨r,B⟩=qes live (qcI (qai X) X.lin T true B.length [
 ⟨some 19,.move (.t 5),none,[]⟩,
 ⟨some 20,.load true 3 (.t 6),none,[]⟩,
 ⟨some 2,.move (.t 19),none,[0]⟩,
 ⟨none,.store false 3 (.t 3) (.t 20),none,[0,1,2]⟩] ⟨r,B++List.replicate na none⟩):=qbX X T na live qtn (by kernel_rfl) r B
theorem qy6(X:XEnv)(T:List Nat)(na:Nat)(live:List Nat)(r:List (Nat×AV))(B:qak):qax X T (.region true na live qtd) ⟨r,B⟩=qes live (qcI (qai X) X.lin T true B.length [
 ⟨some 12,.move (.t 4),none,[]⟩,
 ⟨some 13,.callS 4 (.c (.fn 195 [])) [.t 12],none,[0]⟩,
 ⟨some 14,.loadS true 3 (.t 5) 4,none,[]⟩,
 ⟨some 2,.move (.t 13),none,[0,1]⟩,
 ⟨none,.store false 3 (.t 3) (.t 14),none,[0,1,2,3]⟩] ⟨r,B++List.replicate na none⟩):=qbX X T na live qtd (by kernel_rfl) r B
theorem qy5(X:XEnv)(T:List Nat)(na:Nat)(live:List Nat)(r:List (Nat×AV))(B:qak):qax X T (.region true na live qtc) ⟨r,B⟩=qes live (qcI (qai X) X.lin T true B.length [
 ⟨some 15,.call true (.c (.fn 155 [])) [],none,[]⟩,
 ⟨some 16,.load true 3 (.t 5),none,[]⟩,
 ⟨some 2,.move (.t 15),none,[0]⟩,
 ⟨none,.store false 3 (.t 3) (.t 16),none,[0,1,2]⟩] ⟨r,B++List.replicate na none⟩):=qbX X T na live qtc (by kernel_rfl) r B
theorem quz:∀{l:List (Nat×VFn)} {k:Nat} {v:VFn},look l k=some v->(k,v)∈l
 | [],_,_,h=>by simp[look]at h
 |(a,u)::r,k,v,h=>by
  simp only[look]at h;split at h
  ·rename_i hk
   simp at h;subst h;subst hk;simp
  ·exact List.mem_cons_of_mem _ (quz h)
theorem qAE:qxF.all (fun q=>q.2.linOK (qmN qAC q.1))=true:=by kernel_rfl
theorem qwT:qz1.all (fun q=>q.2.pre.linOK (qmN qAC q.1)&&q.2.rest.linOK (qmN qAC q.1)&&qao (qmN qAC q.1) (q.2.results.flatMap VRes.vx)&&(qmN qAC q.1).all (fun j=>decide (q.2.np<=j)))=true:=by kernel_rfl
theorem qpz:∀q,q∈qxe->qzg q.2 (qAu q.2)/\qmN qAC q.1=[]:=List.forall_mem_nil _
theorem xok:XOK XV:=⟨fun f vf h=>List.all_eq_true.1 qAE (f,vf) (quz h),fun f g h=>⟨qAu g,by show(qiL qxe f).map qAu=_;rw[show qiL qxe f=some g from h];rfl,(qpz (f,g) (qfX h)).1,(qpz (f,g) (qfX h)).2⟩,fun f h=>by show(qiL qxe f).map qAu=_;rw[show qiL qxe f=none from h];rfl,fun f sf h=>by
 have:=List.all_eq_true.1 qwT (f,sf) (qiK h);simp only[Bool.and_eq_true]at this;exact⟨this.1.1.1,this.1.1.2,this.1.2,this.2⟩⟩
end Go.Proofs.Ytfiakfiocdfpbaa.VS
