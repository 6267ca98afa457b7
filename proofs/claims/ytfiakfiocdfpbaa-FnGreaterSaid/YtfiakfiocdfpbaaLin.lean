/- Which registers of each function may own rows; the functions for the evaluator without names. -/
import Derived.Test.YtfiakfiocdfpbaaNat2
import Derived.Test.YtfiakfiocdfpbaaCode
import Derived.KernelRfl
set_option linter.unusedVariables false
namespace Go.Proofs.Ytfiakfiocdfpbaa.VS
def qAe:List (Nat×List Nat):=[(25,[15]),(78,[70]),(104,[2,4,8]),(105,[8]),(107,[2,5,6,7]),(110,[2,5]),(111,[4,12,26,27]),(112,[4,6,10,11,12,27,31,32,34,35,36,40]),(118,[28]),(146,[9,18,24,25,26,28]),(147,[4]),(150,[5,7]),(151,[2,3,6,12,13,15,16,17,19]),(153,[13,27,36,41,42,51,52,53,54,63,64,65,67]),(154,[0,1,4,6,22,25,26,27,28,29,30,31,34,35]),(155,[0,8]),(156,[28,30]),(161,[7,60,62,64,65,72,73]),(163,[9]),(164,[6,7]),(166,[8,24,28,36,37,40,45,46,47,50]),(177,[2,5,8,10,11,12,13,14,15,16]),(180,[2,15,18,24,28,29,30,31]),(339,[14,16,18,20]),(340,[12,14,20,21,27,28,29,30]),(363,[15,17,19,20,25,29,30,31,33,37,38,39])]
def qlx:List (Nat×List Nat)->Nat->List Nat
 | [],_=>[]
 |(k,v)::r,n=>if n=k then v else qlx r n
noncomputable def XV:XEnv:=⟨E,qlx qAe,qjg qyx⟩
noncomputable def XW:XEnv:=⟨⟨look qr9,fun _=>none,fun _=>none,qu0 qy7⟩,qlx qAe,fun _=>none⟩
@[simp] theorem qLN:XV.lin 3=[]:=by kernel_rfl
theorem qAZ:XV.env.code 3=some v3:=by kernel_rfl
@[simp] theorem qLM:XV.lin 4=[]:=by kernel_rfl
theorem qAY:XV.env.code 4=some v4:=by kernel_rfl
@[simp] theorem qLL:XV.lin 6=[]:=by kernel_rfl
theorem qAX:XV.env.code 6=some v6:=by kernel_rfl
@[simp] theorem qLi:XV.lin 13=[]:=by kernel_rfl
theorem qxH:XV.env.code 13=some v13:=by kernel_rfl
@[simp] theorem qLh:XV.lin 14=[]:=by kernel_rfl
theorem qxG:XV.env.code 14=some v14:=by kernel_rfl
@[simp] theorem qLg:XV.lin 18=[]:=by kernel_rfl
theorem qxF:XV.env.code 18=some v18:=by kernel_rfl
@[simp] theorem qF2:XV.lin 19=[]:=by kernel_rfl
theorem qxE:XV.env.code 19=some v19:=by kernel_rfl
@[simp] theorem qLf:XV.lin 22=[]:=by kernel_rfl
theorem qxD:XV.env.code 22=some v22:=by kernel_rfl
@[simp] theorem qLe:XV.lin 23=[]:=by kernel_rfl
theorem qxC:XV.env.code 23=some v23:=by kernel_rfl
@[simp] theorem qLd:XV.lin 24=[]:=by kernel_rfl
theorem qxB:XV.env.code 24=some v24:=by kernel_rfl
@[simp] theorem qAf:XV.lin 25=[15]:=by kernel_rfl
theorem qoS:XV.env.code 25=some v25:=by kernel_rfl
@[simp] theorem qLc:XV.lin 29=[]:=by kernel_rfl
theorem qxA:XV.env.code 29=some v29:=by kernel_rfl
@[simp] theorem qLb:XV.lin 30=[]:=by kernel_rfl
theorem qxz:XV.env.code 30=some v30:=by kernel_rfl
@[simp] theorem qLa:XV.lin 31=[]:=by kernel_rfl
theorem qxy:XV.env.code 31=some v31:=by kernel_rfl
@[simp] theorem qK9:XV.lin 33=[]:=by kernel_rfl
theorem qxx:XV.env.code 33=some v33:=by kernel_rfl
@[simp] theorem qK8:XV.lin 34=[]:=by kernel_rfl
theorem qxw:XV.env.code 34=some v34:=by kernel_rfl
@[simp] theorem qK7:XV.lin 47=[]:=by kernel_rfl
theorem qG2:XV.env.code 47=some v47:=by kernel_rfl
@[simp] theorem qK6:XV.lin 53=[]:=by kernel_rfl
theorem qxv:XV.env.code 53=some v53:=by kernel_rfl
@[simp] theorem qK5:XV.lin 54=[]:=by kernel_rfl
theorem qG1:XV.env.code 54=some v54:=by kernel_rfl
@[simp] theorem qK4:XV.lin 55=[]:=by kernel_rfl
theorem qG0:XV.env.code 55=some v55:=by kernel_rfl
@[simp] theorem qK3:XV.lin 56=[]:=by kernel_rfl
theorem qGZ:XV.env.code 56=some v56:=by kernel_rfl
@[simp] theorem qK2:XV.lin 59=[]:=by kernel_rfl
theorem qxu:XV.env.code 59=some v59:=by kernel_rfl
@[simp] theorem qK1:XV.lin 60=[]:=by kernel_rfl
theorem qxt:XV.env.code 60=some v60:=by kernel_rfl
@[simp] theorem qK0:XV.lin 61=[]:=by kernel_rfl
theorem qxs:XV.env.code 61=some v61:=by kernel_rfl
@[simp] theorem qKZ:XV.lin 62=[]:=by kernel_rfl
theorem qxr:XV.env.code 62=some v62:=by kernel_rfl
@[simp] theorem qKY:XV.lin 70=[]:=by kernel_rfl
theorem qxq:XV.env.code 70=some v70:=by kernel_rfl
@[simp] theorem qKX:XV.lin 73=[]:=by kernel_rfl
theorem qxp:XV.env.code 73=some v73:=by kernel_rfl
@[simp] theorem qKW:XV.lin 74=[]:=by kernel_rfl
theorem qxo:XV.env.code 74=some v74:=by kernel_rfl
@[simp] theorem qKV:XV.lin 75=[]:=by kernel_rfl
theorem qxn:XV.env.code 75=some v75:=by kernel_rfl
@[simp] theorem qF1:XV.lin 77=[]:=by kernel_rfl
theorem qxm:XV.env.code 77=some v77:=by kernel_rfl
@[simp] theorem qu4:XV.lin 78=[70]:=by kernel_rfl
theorem qxl:XV.env.code 78=some v78:=by kernel_rfl
@[simp] theorem qKU:XV.lin 79=[]:=by kernel_rfl
theorem qxk:XV.env.code 79=some v79:=by kernel_rfl
@[simp] theorem qKT:XV.lin 80=[]:=by kernel_rfl
theorem qxj:XV.env.code 80=some v80:=by kernel_rfl
@[simp] theorem qKS:XV.lin 81=[]:=by kernel_rfl
theorem qxi:XV.env.code 81=some v81:=by kernel_rfl
@[simp] theorem qF0:XV.lin 82=[]:=by kernel_rfl
theorem qxh:XV.env.code 82=some v82:=by kernel_rfl
@[simp] theorem qu3:XV.lin 83=[]:=by kernel_rfl
theorem qxg:XV.env.code 83=some v83:=by kernel_rfl
@[simp] theorem qKR:XV.lin 84=[]:=by kernel_rfl
theorem qxf:XV.env.code 84=some v84:=by kernel_rfl
@[simp] theorem qKQ:XV.lin 85=[]:=by kernel_rfl
theorem qxe:XV.env.code 85=some v85:=by kernel_rfl
@[simp] theorem qJB:XV.lin 102=[]:=by kernel_rfl
theorem qtt:XV.env.code 102=some qDj:=by kernel_rfl
@[simp] theorem qJA:XV.lin 103=[]:=by kernel_rfl
theorem qts:XV.env.code 103=some qDi:=by kernel_rfl
@[simp] theorem qJz:XV.lin 104=[2,4,8]:=by kernel_rfl
theorem qtr:XV.env.code 104=some qDh:=by kernel_rfl
@[simp] theorem qJy:XV.lin 105=[8]:=by kernel_rfl
theorem qtq:XV.env.code 105=some qBm:=by kernel_rfl
@[simp] theorem qJx:XV.lin 106=[]:=by kernel_rfl
theorem qDL:XV.env.code 106=some qG5:=by kernel_rfl
@[simp] theorem qJw:XV.lin 107=[2,5,6,7]:=by kernel_rfl
theorem qDK:XV.env.code 107=some qG4:=by kernel_rfl
@[simp] theorem qJv:XV.lin 108=[]:=by kernel_rfl
theorem qDJ:XV.env.code 108=some qzl:=by kernel_rfl
@[simp] theorem qJu:XV.lin 110=[2,5]:=by kernel_rfl
theorem qtp:XV.env.code 110=some qDg:=by kernel_rfl
@[simp] theorem qCg:XV.lin 111=[4,12,26,27]:=by kernel_rfl
theorem qto:XV.env.code 111=some qxS:=by kernel_rfl
@[simp] theorem qCf:XV.lin 112=[4,6,10,11,12,27,31,32,34,35,36,40]:=by kernel_rfl
theorem qtn:XV.env.code 112=some qzk:=by kernel_rfl
@[simp] theorem qJt:XV.lin 117=[]:=by kernel_rfl
theorem qtm:XV.env.code 117=some qtG:=by kernel_rfl
@[simp] theorem qCe:XV.lin 118=[28]:=by kernel_rfl
theorem qtl:XV.env.code 118=some qtF:=by kernel_rfl
@[simp] theorem qJs:XV.lin 133=[]:=by kernel_rfl
theorem qtk:XV.env.code 133=some qDf:=by kernel_rfl
@[simp] theorem qCd:XV.lin 146=[9,18,24,25,26,28]:=by kernel_rfl
theorem qtj:XV.env.code 146=some qBl:=by kernel_rfl
@[simp] theorem qJr:XV.lin 147=[4]:=by kernel_rfl
theorem qti:XV.env.code 147=some qDe:=by kernel_rfl
@[simp] theorem qJq:XV.lin 150=[5,7]:=by kernel_rfl
theorem qth:XV.env.code 150=some qDd:=by kernel_rfl
@[simp] theorem qCc:XV.lin 151=[2,3,6,12,13,15,16,17,19]:=by kernel_rfl
theorem qtg:XV.env.code 151=some qDc:=by kernel_rfl
@[simp] theorem qu6:XV.lin 153=[13,27,36,41,42,51,52,53,54,63,64,65,67]:=by kernel_rfl
theorem qtf:XV.env.code 153=some qDb:=by kernel_rfl
@[simp] theorem qCb:XV.lin 154=[0,1,4,6,22,25,26,27,28,29,30,31,34,35]:=by kernel_rfl
theorem qte:XV.env.code 154=some qDa:=by kernel_rfl
@[simp] theorem qJp:XV.lin 155=[0,8]:=by kernel_rfl
theorem qtd:XV.env.code 155=some qC9:=by kernel_rfl
@[simp] theorem qCa:XV.lin 156=[28,30]:=by kernel_rfl
theorem qtc:XV.env.code 156=some qC8:=by kernel_rfl
@[simp] theorem qJo:XV.lin 159=[]:=by kernel_rfl
theorem qtb:XV.env.code 159=some qC7:=by kernel_rfl
@[simp] theorem qJn:XV.lin 160=[]:=by kernel_rfl
theorem qta:XV.env.code 160=some qC6:=by kernel_rfl
@[simp] theorem qu5:XV.lin 161=[7,60,62,64,65,72,73]:=by kernel_rfl
theorem qs9:XV.env.code 161=some qC5:=by kernel_rfl
@[simp] theorem qJm:XV.lin 162=[]:=by kernel_rfl
theorem qs8:XV.env.code 162=some qC4:=by kernel_rfl
@[simp] theorem qJl:XV.lin 163=[9]:=by kernel_rfl
theorem qs7:XV.env.code 163=some qC3:=by kernel_rfl
@[simp] theorem qJk:XV.lin 164=[6,7]:=by kernel_rfl
theorem qs6:XV.env.code 164=some v164:=by kernel_rfl
@[simp] theorem qJj:XV.lin 165=[]:=by kernel_rfl
theorem qs5:XV.env.code 165=some qBj:=by kernel_rfl
@[simp] theorem qjh:XV.lin 166=[8,24,28,36,37,40,45,46,47,50]:=by kernel_rfl
theorem qs4:XV.env.code 166=some qC2:=by kernel_rfl
@[simp] theorem qJi:XV.lin 177=[2,5,8,10,11,12,13,14,15,16]:=by kernel_rfl
theorem qs3:XV.env.code 177=some qC1:=by kernel_rfl
@[simp] theorem qB9:XV.lin 178=[]:=by kernel_rfl
theorem qs2:XV.env.code 178=some qxR:=by kernel_rfl
@[simp] theorem qB8:XV.lin 179=[]:=by kernel_rfl
theorem qs1:XV.env.code 179=some qxQ:=by kernel_rfl
@[simp] theorem qJh:XV.lin 180=[2,15,18,24,28,29,30,31]:=by kernel_rfl
theorem qip:XV.env.code 180=some qw0:=by kernel_rfl
@[simp] theorem qJg:XV.lin 339=[14,16,18,20]:=by kernel_rfl
theorem qs0:XV.env.code 339=some qBh:=by kernel_rfl
@[simp] theorem qJf:XV.lin 340=[12,14,20,21,27,28,29,30]:=by kernel_rfl
theorem qsZ:XV.env.code 340=some qzj:=by kernel_rfl
@[simp] theorem qJe:XV.lin 363=[15,17,19,20,25,29,30,31,33,37,38,39]:=by kernel_rfl
theorem qsY:XV.env.code 363=some qBg:=by kernel_rfl
theorem qLo(X:XEnv)(T:List Nat)(na:Nat)(live:List Nat)(r:List (Nat×AV))(B:qaj):qaC X T (.region true na live qIA) ⟨r,B⟩=qee live (qcu (qac X) X.lin T true B.length [
 ⟨some 34,.fieldAddr 2 (.t 2),none,[]⟩,
 ⟨some 35,.load false 1 (.t 34),none,[0]⟩,
 ⟨some 36,.move (.t 5),none,[]⟩,
 ⟨some 37,.indexAddr 3 none (.t 35) (.t 36),none,[1,2]⟩,
 ⟨some 38,.load true 3 (.t 37),none,[3]⟩,
 ⟨some 39,.fieldAddr 2 (.t 3),none,[]⟩,
 ⟨some 40,.load false 1 (.t 39),none,[5]⟩,
 ⟨some 41,.move (.t 5),none,[]⟩,
 ⟨some 42,.indexAddr 3 none (.t 40) (.t 41),none,[6,7]⟩,
 ⟨some 43,.load true 3 (.t 42),none,[8]⟩,
 ⟨some 44,.call true (.c (.fn 3 [])) [.t 38,.t 43],none,[4,9]⟩,
 ⟨some 45,.not (.t 44),none,[10]⟩] ⟨r,B++List.replicate na none⟩):=qbx X T na live qIA (by kernel_rfl) r B
theorem qGH(X:XEnv)(T:List Nat)(na:Nat)(live:List Nat)(r:List (Nat×AV))(B:qaj):qaC X T (.region true na live qBH) ⟨r,B⟩=qee live (qcu (qac X) X.lin T true B.length [
 ⟨some 51,.fieldAddr 2 (.t 2),none,[]⟩,
 ⟨some 52,.load false 1 (.t 51),none,[0]⟩,
 ⟨some 53,.move (.t 7),none,[]⟩,
 ⟨some 54,.indexAddr 3 none (.t 52) (.t 53),none,[1,2]⟩,
 ⟨some 55,.load true 3 (.t 54),none,[3]⟩,
 ⟨some 56,.fieldAddr 2 (.t 3),none,[]⟩,
 ⟨some 57,.load false 1 (.t 56),none,[5]⟩,
 ⟨some 58,.move (.t 7),none,[]⟩,
 ⟨some 59,.indexAddr 3 none (.t 57) (.t 58),none,[6,7]⟩,
 ⟨some 60,.load true 3 (.t 59),none,[8]⟩,
 ⟨some 61,.call true (.c (.fn 6 [])) [.t 55,.t 60],none,[4,9]⟩,
 ⟨some 8,.move (.t 61),none,[0,1,2,3,4,5,6,7,8,9,10]⟩] ⟨r,B++List.replicate na none⟩):=qbx X T na live qBH (by kernel_rfl) r B
theorem qv7(X:XEnv)(T:List Nat)(na:Nat)(live:List Nat)(r:List (Nat×AV))(B:qaj):qaC X T (.region true na live qyj) ⟨r,B⟩=qee live (qcu (qac X) X.lin T true B.length [
 ⟨some 18,.move (.t 0),none,[]⟩,
 ⟨some 19,.fieldAddr 0 (.t 3),none,[]⟩,
 ⟨some 20,.load false 1 (.t 19),none,[1]⟩,
 ⟨some 21,.call true (.c (.fn 29 [])) [.t 18,.t 20],none,[0,2]⟩,
 ⟨some 22,.not (.t 21),none,[3]⟩,
 ⟨some 23,.move (.t 22),none,[3,4]⟩,
 ⟨some 24,.fieldAddr 1 (.t 3),some (23,false),[5]⟩,
 ⟨some 25,.load false 1 (.t 24),some (23,false),[5,6]⟩,
 ⟨some 26,.bin .neq (.t 25) (.c (.d (.int .i64 0))),some (23,false),[5,7]⟩,
 ⟨some 27,.pick (.t 23) (.c (.d (.bool true))) (.t 26),none,[5,8]⟩,
 ⟨some 28,.move (.t 27),none,[5,9]⟩,
 ⟨some 29,.move (.t 0),some (28,false),[10]⟩,
 ⟨some 30,.fieldAddr 0 (.t 3),some (28,false),[10]⟩,
 ⟨some 31,.load false 1 (.t 30),some (28,false),[10,12]⟩,
 ⟨some 32,.indexAddr 3 none (.t 29) (.t 31),some (28,false),[10,11,13]⟩,
 ⟨some 33,.fieldAddr 2 (.t 32),some (28,false),[10,14]⟩,
 ⟨some 34,.load false 1 (.t 33),some (28,false),[10,15]⟩,
 ⟨some 35,.not (.t 34),some (28,false),[10,16]⟩,
 ⟨some 36,.move (.t 35),some (28,false),[10,17]⟩,
 ⟨some 37,.fieldAddr 2 (.t 3),some (36,true),[18]⟩,
 ⟨some 38,.load false 1 (.t 37),some (36,true),[18,19]⟩,
 ⟨some 39,.len false (.t 38),some (36,true),[18,20]⟩,
 ⟨some 40,.move (.t 0),some (36,true),[18]⟩,
 ⟨some 41,.fieldAddr 0 (.t 3),some (36,true),[18]⟩,
 ⟨some 42,.load false 1 (.t 41),some (36,true),[18,23]⟩,
 ⟨some 43,.indexAddr 3 none (.t 40) (.t 42),some (36,true),[18,22,24]⟩,
 ⟨some 44,.fieldAddr 1 (.t 43),some (36,true),[18,25]⟩,
 ⟨some 45,.load false 1 (.t 44),some (36,true),[18,26]⟩,
 ⟨some 46,.bin .neq (.t 39) (.t 45),some (36,true),[18,21,27]⟩,
 ⟨some 47,.pick (.t 36) (.t 46) (.c (.d (.bool false))),some (28,false),[10,18,28]⟩,
 ⟨some 48,.pick (.t 28) (.c (.d (.bool true))) (.t 47),none,[10,29]⟩,
 ⟨some 49,.move (.t 48),none,[18,30]⟩,
 ⟨some 50,.move (.t 0),some (49,false),[31]⟩,
 ⟨some 51,.fieldAddr 0 (.t 3),some (49,false),[31]⟩,
 ⟨some 52,.load false 1 (.t 51),some (49,false),[31,33]⟩,
 ⟨some 53,.indexAddr 3 none (.t 50) (.t 52),some (49,false),[31,32,34]⟩,
 ⟨some 54,.fieldAddr 2 (.t 53),some (49,false),[31,35]⟩,
 ⟨some 55,.load false 1 (.t 54),some (49,false),[31,36]⟩,
 ⟨some 56,.move (.t 55),some (49,false),[31,37]⟩,
 ⟨some 57,.fieldAddr 2 (.t 3),some (56,true),[38]⟩,
 ⟨some 58,.load false 1 (.t 57),some (56,true),[38,39]⟩,
 ⟨some 59,.len false (.t 58),some (56,true),[38,40]⟩,
 ⟨some 60,.bin .lss (.t 59) (.c (.d (.int .i64 2))),some (56,true),[38,41]⟩,
 ⟨some 61,.pick (.t 56) (.t 60) (.c (.d (.bool false))),some (49,false),[31,38,42]⟩,
 ⟨some 62,.pick (.t 49) (.c (.d (.bool true))) (.t 61),none,[31,43]⟩] ⟨r,B++List.replicate na none⟩):=qbx X T na live qyj (by kernel_rfl) r B
theorem qv6(X:XEnv)(T:List Nat)(na:Nat)(live:List Nat)(r:List (Nat×AV))(B:qaj):qaC X T (.region true na live qyh) ⟨r,B⟩=qee live (qcu (qac X) X.lin T true B.length [
 ⟨some 71,.move (.t 0),none,[]⟩,
 ⟨some 72,.load true 3 (.t 6),none,[]⟩,
 ⟨some 73,.call true (.c (.fn 78 [])) [.t 71,.t 72],none,[0,1]⟩,
 ⟨some 74,.not (.t 73),none,[2]⟩,
 ⟨some 75,.move (.t 74),none,[2,3]⟩,
 ⟨some 76,.move (.t 0),some (75,false),[4]⟩,
 ⟨some 77,.fieldAddr 0 (.t 3),some (75,false),[4]⟩,
 ⟨some 78,.load false 1 (.t 77),some (75,false),[4,6]⟩,
 ⟨some 79,.indexAddr 3 none (.t 76) (.t 78),some (75,false),[4,5,7]⟩,
 ⟨some 80,.fieldAddr 2 (.t 79),some (75,false),[4,8]⟩,
 ⟨some 81,.load false 1 (.t 80),some (75,false),[4,9]⟩,
 ⟨some 82,.move (.t 81),some (75,false),[4,10]⟩,
 ⟨some 83,.fieldAddr 0 (.t 6),some (82,true),[11]⟩,
 ⟨some 84,.load false 1 (.t 83),some (82,true),[11,12]⟩,
 ⟨some 85,.fieldAddr 0 (.t 3),some (82,true),[11]⟩,
 ⟨some 86,.load false 1 (.t 85),some (82,true),[11,14]⟩,
 ⟨some 87,.bin .eql (.t 84) (.t 86),some (82,true),[11,13,15]⟩,
 ⟨some 88,.move (.t 87),some (82,true),[11,16]⟩,
 ⟨some 89,.move (.t 5),some (88,false),[17]⟩,
 ⟨some 90,.bin .gtr (.t 89) (.c (.d (.int .i64 0))),some (88,false),[17,18]⟩,
 ⟨some 91,.move (.t 90),some (88,false),[17,19]⟩,
 ⟨some 92,.load true 3 (.t 6),some (91,true),[20]⟩,
 ⟨some 93,.fieldAddr 2 (.t 3),some (91,true),[20]⟩,
 ⟨some 94,.load false 1 (.t 93),some (91,true),[20,22]⟩,
 ⟨some 95,.move (.t 5),some (91,true),[20]⟩,
 ⟨some 96,.bin .sub (.t 95) (.c (.d (.int .i64 1))),some (91,true),[20,24]⟩,
 ⟨some 97,.indexAddr 3 none (.t 94) (.t 96),some (91,true),[20,23,25]⟩,
 ⟨some 98,.load true 3 (.t 97),some (91,true),[20,26]⟩,
 ⟨some 99,.call true (.c (.fn 79 [])) [.t 92,.t 98],some (91,true),[20,21,27]⟩,
 ⟨some 100,.pick (.t 91) (.t 99) (.c (.d (.bool false))),some (88,false),[17,20,28]⟩,
 ⟨some 101,.pick (.t 88) (.c (.d (.bool true))) (.t 100),some (82,true),[11,17,29]⟩,
 ⟨some 102,.pick (.t 82) (.t 101) (.c (.d (.bool false))),some (75,false),[4,11,30]⟩,
 ⟨some 103,.pick (.t 75) (.c (.d (.bool true))) (.t 102),none,[4,31]⟩] ⟨r,B++List.replicate na none⟩):=qbx X T na live qyh (by kernel_rfl) r B
theorem qv5(X:XEnv)(T:List Nat)(na:Nat)(live:List Nat)(r:List (Nat×AV))(B:qaj):qaC X T (.region true na live qye) ⟨r,B⟩=qee live (qcu (qac X) X.lin T true B.length [
 ⟨some 18,.fieldAddr 0 (.t 3),none,[]⟩,
 ⟨some 19,.load false 1 (.t 18),none,[0]⟩,
 ⟨some 20,.move (.t 0),none,[]⟩,
 ⟨some 21,.len false (.t 20),none,[2]⟩,
 ⟨some 22,.bin .sub (.t 21) (.c (.d (.int .i64 1))),none,[3]⟩,
 ⟨some 23,.call true (.c (.fn 31 [])) [.t 19,.c (.d (.int .i64 0)),.t 22],none,[1,4]⟩,
 ⟨some 24,.not (.t 23),none,[5]⟩,
 ⟨some 25,.move (.t 24),none,[5,6]⟩,
 ⟨some 26,.fieldAddr 1 (.t 3),some (25,false),[7]⟩,
 ⟨some 27,.load false 1 (.t 26),some (25,false),[7,8]⟩,
 ⟨some 28,.bin .neq (.t 27) (.c (.d (.int .i64 0))),some (25,false),[7,9]⟩,
 ⟨some 29,.pick (.t 25) (.c (.d (.bool true))) (.t 28),none,[7,10]⟩,
 ⟨some 30,.move (.t 29),none,[7,11]⟩,
 ⟨some 31,.move (.t 0),some (30,false),[12]⟩,
 ⟨some 32,.fieldAddr 0 (.t 3),some (30,false),[12]⟩,
 ⟨some 33,.load false 1 (.t 32),some (30,false),[12,14]⟩,
 ⟨some 34,.indexAddr 3 none (.t 31) (.t 33),some (30,false),[12,13,15]⟩,
 ⟨some 35,.fieldAddr 2 (.t 34),some (30,false),[12,16]⟩,
 ⟨some 36,.load false 1 (.t 35),some (30,false),[12,17]⟩,
 ⟨some 37,.not (.t 36),some (30,false),[12,18]⟩,
 ⟨some 38,.move (.t 37),some (30,false),[12,19]⟩,
 ⟨some 39,.fieldAddr 2 (.t 3),some (38,true),[20]⟩,
 ⟨some 40,.load false 1 (.t 39),some (38,true),[20,21]⟩,
 ⟨some 41,.len false (.t 40),some (38,true),[20,22]⟩,
 ⟨some 42,.move (.t 0),some (38,true),[20]⟩,
 ⟨some 43,.fieldAddr 0 (.t 3),some (38,true),[20]⟩,
 ⟨some 44,.load false 1 (.t 43),some (38,true),[20,25]⟩,
 ⟨some 45,.indexAddr 3 none (.t 42) (.t 44),some (38,true),[20,24,26]⟩,
 ⟨some 46,.fieldAddr 1 (.t 45),some (38,true),[20,27]⟩,
 ⟨some 47,.load false 1 (.t 46),some (38,true),[20,28]⟩,
 ⟨some 48,.bin .neq (.t 41) (.t 47),some (38,true),[20,23,29]⟩,
 ⟨some 49,.pick (.t 38) (.t 48) (.c (.d (.bool false))),some (30,false),[12,20,30]⟩,
 ⟨some 50,.pick (.t 30) (.c (.d (.bool true))) (.t 49),none,[12,31]⟩,
 ⟨some 51,.move (.t 50),none,[20,32]⟩,
 ⟨some 52,.move (.t 0),some (51,false),[33]⟩,
 ⟨some 53,.fieldAddr 0 (.t 3),some (51,false),[33]⟩,
 ⟨some 54,.load false 1 (.t 53),some (51,false),[33,35]⟩,
 ⟨some 55,.indexAddr 3 none (.t 52) (.t 54),some (51,false),[33,34,36]⟩,
 ⟨some 56,.fieldAddr 2 (.t 55),some (51,false),[33,37]⟩,
 ⟨some 57,.load false 1 (.t 56),some (51,false),[33,38]⟩,
 ⟨some 58,.move (.t 57),some (51,false),[33,39]⟩,
 ⟨some 59,.fieldAddr 2 (.t 3),some (58,true),[40]⟩,
 ⟨some 60,.load false 1 (.t 59),some (58,true),[40,41]⟩,
 ⟨some 61,.len false (.t 60),some (58,true),[40,42]⟩,
 ⟨some 62,.bin .lss (.t 61) (.c (.d (.int .i64 2))),some (58,true),[40,43]⟩,
 ⟨some 63,.pick (.t 58) (.t 62) (.c (.d (.bool false))),some (51,false),[33,40,44]⟩,
 ⟨some 64,.pick (.t 51) (.c (.d (.bool true))) (.t 63),none,[33,45]⟩] ⟨r,B++List.replicate na none⟩):=qbx X T na live qye (by kernel_rfl) r B
theorem qnf(X:XEnv)(T:List Nat)(na:Nat)(live:List Nat)(r:List (Nat×AV))(B:qaj):qaC X T (.region true na live qyc) ⟨r,B⟩=qee live (qcu (qac X) X.lin T true B.length [
 ⟨some 72,.move (.t 0),none,[]⟩,
 ⟨some 73,.fieldAddr 0 (.t 3),none,[]⟩,
 ⟨some 74,.load false 1 (.t 73),none,[1]⟩,
 ⟨some 75,.indexAddr 3 none (.t 72) (.t 74),none,[0,2]⟩,
 ⟨some 76,.fieldAddr 2 (.t 75),none,[3]⟩,
 ⟨some 77,.load false 1 (.t 76),none,[4]⟩,
 ⟨some 78,.move (.t 77),none,[5]⟩,
 ⟨some 79,.fieldAddr 2 (.t 3),some (78,true),[6]⟩,
 ⟨some 80,.load false 1 (.t 79),some (78,true),[6,7]⟩,
 ⟨some 81,.move (.t 5),some (78,true),[6]⟩,
 ⟨some 82,.indexAddr 3 none (.t 80) (.t 81),some (78,true),[6,8,9]⟩,
 ⟨some 83,.fieldAddr 0 (.t 82),some (78,true),[6,10]⟩,
 ⟨some 84,.load false 1 (.t 83),some (78,true),[6,11]⟩,
 ⟨some 85,.fieldAddr 0 (.t 3),some (78,true),[6]⟩,
 ⟨some 86,.load false 1 (.t 85),some (78,true),[6,13]⟩,
 ⟨some 87,.bin .eql (.t 84) (.t 86),some (78,true),[6,12,14]⟩,
 ⟨some 88,.move (.t 87),some (78,true),[6,15]⟩,
 ⟨some 89,.move (.t 5),some (88,false),[16]⟩,
 ⟨some 90,.bin .gtr (.t 89) (.c (.d (.int .i64 0))),some (88,false),[16,17]⟩,
 ⟨some 91,.move (.t 90),some (88,false),[16,18]⟩,
 ⟨some 92,.fieldAddr 2 (.t 3),some (91,true),[19]⟩,
 ⟨some 93,.load false 1 (.t 92),some (91,true),[19,20]⟩,
 ⟨some 94,.move (.t 5),some (91,true),[19]⟩,
 ⟨some 95,.indexAddr 3 none (.t 93) (.t 94),some (91,true),[19,21,22]⟩,
 ⟨some 96,.load true 3 (.t 95),some (91,true),[19,23]⟩,
 ⟨some 97,.fieldAddr 2 (.t 3),some (91,true),[19]⟩,
 ⟨some 98,.load false 1 (.t 97),some (91,true),[19,25]⟩,
 ⟨some 99,.move (.t 5),some (91,true),[19]⟩,
 ⟨some 100,.bin .sub (.t 99) (.c (.d (.int .i64 1))),some (91,true),[19,27]⟩,
 ⟨some 101,.indexAddr 3 none (.t 98) (.t 100),some (91,true),[19,26,28]⟩,
 ⟨some 102,.load true 3 (.t 101),some (91,true),[19,29]⟩,
 ⟨some 103,.call true (.c (.fn 84 [])) [.t 96,.t 102],some (91,true),[19,24,30]⟩,
 ⟨some 104,.pick (.t 91) (.t 103) (.c (.d (.bool false))),some (88,false),[16,19,31]⟩,
 ⟨some 105,.pick (.t 88) (.c (.d (.bool true))) (.t 104),some (78,true),[6,16,32]⟩,
 ⟨some 106,.pick (.t 78) (.t 105) (.c (.d (.bool false))),none,[6,33]⟩,
 ⟨some 107,.move (.t 106),none,[31,34]⟩,
 ⟨some 108,.move (.t 0),some (107,false),[35]⟩,
 ⟨some 109,.fieldAddr 2 (.t 3),some (107,false),[35]⟩,
 ⟨some 110,.load false 1 (.t 109),some (107,false),[35,37]⟩,
 ⟨some 111,.move (.t 5),some (107,false),[35]⟩,
 ⟨some 112,.indexAddr 3 none (.t 110) (.t 111),some (107,false),[35,38,39]⟩,
 ⟨some 113,.load true 3 (.t 112),some (107,false),[35,40]⟩,
 ⟨some 114,.call true (.c (.fn 83 [])) [.t 108,.t 113],some (107,false),[35,36,41]⟩,
 ⟨some 115,.not (.t 114),some (107,false),[35,42]⟩,
 ⟨some 116,.pick (.t 107) (.c (.d (.bool true))) (.t 115),none,[35,43]⟩] ⟨r,B++List.replicate na none⟩):=qbx X T na live qyc (by kernel_rfl) r B
theorem qhT(X:XEnv)(T:List Nat)(na:Nat)(live:List Nat)(r:List (Nat×AV))(B:qaj):qaC X T (.region true na live qt3) ⟨r,B⟩=qee live (qcu (qac X) X.lin T true B.length [
 ⟨some 47,.fieldAddr 2 (.t 2),none,[]⟩,
 ⟨some 48,.load false 1 (.t 47),none,[0]⟩,
 ⟨some 49,.move (.t 5),none,[]⟩,
 ⟨some 50,.indexAddr 3 none (.t 48) (.t 49),none,[1,2]⟩,
 ⟨some 51,.load true 3 (.t 50),none,[3]⟩,
 ⟨some 52,.fieldAddr 2 (.t 3),none,[]⟩,
 ⟨some 53,.load false 1 (.t 52),none,[5]⟩,
 ⟨some 54,.move (.t 5),none,[]⟩,
 ⟨some 55,.indexAddr 3 none (.t 53) (.t 54),none,[6,7]⟩,
 ⟨some 56,.load true 3 (.t 55),none,[8]⟩,
 ⟨some 57,.call true (.c (.fn 3 [])) [.t 51,.t 56],none,[4,9]⟩,
 ⟨some 58,.not (.t 57),none,[10]⟩] ⟨r,B++List.replicate na none⟩):=qbx X T na live qt3 (by kernel_rfl) r B
theorem qhS(X:XEnv)(T:List Nat)(na:Nat)(live:List Nat)(r:List (Nat×AV))(B:qaj):qaC X T (.region true na live qt2) ⟨r,B⟩=qee live (qcu (qac X) X.lin T true B.length [
 ⟨some 59,.fieldAddr 2 (.t 2),none,[]⟩,
 ⟨some 60,.load false 1 (.t 59),none,[0]⟩,
 ⟨some 61,.move (.t 5),none,[]⟩,
 ⟨some 62,.indexAddr 3 none (.t 60) (.t 61),none,[1,2]⟩,
 ⟨some 63,.load true 3 (.t 62),none,[3]⟩,
 ⟨some 64,.fieldAddr 2 (.t 3),none,[]⟩,
 ⟨some 65,.load false 1 (.t 64),none,[5]⟩,
 ⟨some 66,.move (.t 5),none,[]⟩,
 ⟨some 67,.indexAddr 3 none (.t 65) (.t 66),none,[6,7]⟩,
 ⟨some 68,.load true 3 (.t 67),none,[8]⟩,
 ⟨some 69,.call true (.c (.fn 84 [])) [.t 63,.t 68],none,[4,9]⟩,
 ⟨some 4,.move (.t 69),none,[0,1,2,3,4,5,6,7,8,9,10]⟩] ⟨r,B++List.replicate na none⟩):=qbx X T na live qt2 (by kernel_rfl) r B
theorem qqe(X:XEnv)(T:List Nat)(na:Nat)(live:List Nat)(r:List (Nat×AV))(B:qaj):qaC X T (.region true na live quO) ⟨r,B⟩=qee live (qcu (qac X) X.lin T true B.length [
 ⟨some 17,.fieldAddr 2 (.t 3),none,[]⟩,
 ⟨some 18,.load false 1 (.t 17),none,[0]⟩,
 ⟨some 19,.fieldAddr 2 (.t 1),none,[]⟩,
 ⟨some 20,.load false 1 (.t 19),none,[2]⟩,
 ⟨some 21,.move (.t 4),none,[]⟩,
 ⟨some 22,.indexAddr 3 none (.t 20) (.t 21),none,[3,4]⟩,
 ⟨some 23,.load true 3 (.t 22),none,[5]⟩,
 ⟨some 24,.call true (.c (.fn 146 [])) [.t 23],none,[6]⟩,
 ⟨some 25,.buildSlice 3 (.agg [.int .i64 0,.int .i64 0,.sl .nil []]) 1 [(0,.t 24)],none,[7]⟩,
 ⟨some 26,.append 3 40 (.t 18) (.t 25),none,[1,7,8]⟩,
 ⟨some 27,.fieldAddr 2 (.t 3),none,[0,1,2,3,4,5,6,7,8,9]⟩,
 ⟨none,.store false 1 (.t 27) (.t 26),none,[0,1,2,3,4,5,6,7,8,9,10]⟩] ⟨r,B++List.replicate na none⟩):=qbx X T na live quO (by kernel_rfl) r B
theorem qjx(X:XEnv)(T:List Nat)(na:Nat)(live:List Nat)(r:List (Nat×AV))(B:qaj):qaC X T (.regionF true na live quJ) ⟨r,B⟩=qee live (xFs (qac X) X.lin T true B.length [
 .one ⟨some 35,.fieldAddr 2 (.t 5),none,[]⟩,
 .one ⟨some 36,.load false 1 (.t 35),none,[0]⟩,
 .one ⟨some 37,.fieldAddr 2 (.t 7),none,[]⟩,
 .el 38 37 39 (.t 8) 40 3 41 [2] [] [3,4] [5],
 .one ⟨some 42,.call false (.c (.fn 154 [])) [.t 36,.t 41],none,[1,6]⟩,
 .one ⟨some 43,.fieldAddr 2 (.t 5),none,[0,1,2,3,4,5,6,7]⟩,
 .one ⟨none,.store false 1 (.t 43) (.t 42),none,[0,1,2,3,4,5,6,7,8]⟩] ⟨r,B++List.replicate na none⟩):=qAI X T na live quJ (by kernel_rfl) r B
theorem qwe(X:XEnv)(T:List Nat)(na:Nat)(live:List Nat)(r:List (Nat×AV))(B:qaj):qaC X T (.region true na live quI) ⟨r,B⟩=qee live (qcu (qac X) X.lin T true B.length [
 ⟨some 7,.move (.t 5),none,[]⟩,
 ⟨some 8,.move (.t 0),none,[]⟩,
 ⟨some 9,.len false (.t 8),none,[1]⟩,
 ⟨some 10,.bin .lss (.t 7) (.t 9),none,[0,2]⟩,
 ⟨some 11,.move (.t 10),none,[3]⟩,
 ⟨some 12,.load true 3 (.t 3),some (11,true),[4]⟩,
 ⟨some 13,.move (.t 0),some (11,true),[4]⟩,
 ⟨some 14,.move (.t 5),some (11,true),[4]⟩,
 ⟨some 15,.indexAddr 3 none (.t 13) (.t 14),some (11,true),[4,6,7]⟩,
 ⟨some 16,.load true 3 (.t 15),some (11,true),[4,8]⟩,
 ⟨some 17,.call true (.c (.fn 84 [])) [.t 12,.t 16],some (11,true),[4,5,9]⟩,
 ⟨some 18,.not (.t 17),some (11,true),[4,10]⟩,
 ⟨some 19,.pick (.t 11) (.t 18) (.c (.d (.bool false))),none,[4,11]⟩] ⟨r,B++List.replicate na none⟩):=qbx X T na live quI (by kernel_rfl) r B
theorem qGJ(X:XEnv)(T:List Nat)(na:Nat)(live:List Nat)(r:List (Nat×AV))(B:qaj):qaC X T (.region true na live qms) ⟨r,B⟩=qee live (qcu (qac X) X.lin T true B.length [
 ⟨some 25,.move (.t 4),none,[]⟩,
 ⟨some 26,.nilCheck (.t 25),none,[0]⟩,
 ⟨some 27,.fieldAddr 2 (.t 26),none,[1]⟩,
 ⟨some 28,.loadS false 1 (.t 27) 0,none,[2]⟩,
 ⟨some 29,.move (.t 0),none,[]⟩,
 ⟨some 30,.move (.t 4),none,[]⟩,
 ⟨some 31,.nilCheck (.t 30),none,[5]⟩,
 ⟨some 32,.fieldAddr 2 (.t 31),none,[6]⟩,
 ⟨some 33,.load false 1 (.t 32),none,[7]⟩,
 ⟨some 34,.len false (.t 33),none,[8]⟩,
 ⟨some 35,.callS 0 (.c (.fn 159 [])) [.t 29,.t 34],none,[4,9]⟩,
 ⟨some 36,.indexAddr 3 none (.t 28) (.t 35),none,[3,10]⟩,
 ⟨some 4,.move (.t 36),none,[0,1,2,3,4,5,6,7,8,9,10,11]⟩] ⟨r,B++List.replicate na none⟩):=qbx X T na live qms (by kernel_rfl) r B
theorem qCB(X:XEnv)(T:List Nat)(na:Nat)(live:List Nat)(r:List (Nat×AV))(B:qaj):qaC X T (.regionT na live qln qfK) ⟨r,B⟩=xTl (qac X) X.lin T B.length live [
 ⟨some 65,.append1 3 40 (.t 60) (.t 64) (.t 63) (.t 62) 66,none,[]⟩,
 ⟨some 67,.nilCheck (.t 57),none,[]⟩,
 ⟨some 68,.fieldAddr 2 (.t 67),none,[]⟩,
 ⟨none,.store false 1 (.t 68) (.t 65),none,[]⟩] (qcu (qac X) X.lin T true B.length [
 ⟨some 57,.move (.t 4),none,[]⟩,
 ⟨some 58,.nilCheck (.t 57),none,[0]⟩,
 ⟨some 59,.fieldAddr 2 (.t 58),none,[1]⟩,
 ⟨some 60,.loadS false 1 (.t 59) 0,none,[2]⟩,
 ⟨some 61,.move (.t 0),none,[]⟩,
 ⟨some 62,.callS 0 (.c (.fn 166 [])) [.t 61,.c (.d (.int .i64 1)),.c (.d (.int .i64 2))],none,[4]⟩,
 ⟨some 63,.len false (.t 60),none,[3]⟩,
 ⟨some 64,.buildSlice 3 (.agg [.int .i64 0,.int .i64 0,.sl .nil []]) 1 [(0,.c (.d (.agg [.int .i64 0,.int .i64 0,.sl .nil []])))],none,[]⟩] ⟨r,B++List.replicate na none⟩):=qsH X T na live qln qfK (by kernel_rfl) r B
theorem qAu(X:XEnv)(T:List Nat)(na:Nat)(live:List Nat)(r:List (Nat×AV))(B:qaj):qaC X T (.region true na live quA) ⟨r,B⟩=qee live (qcu (qac X) X.lin T true B.length [
 ⟨some 13,.move (.t 0),none,[]⟩,
 ⟨some 14,.nilCheck (.t 13),none,[0]⟩,
 ⟨some 15,.fieldAddr 2 (.t 14),none,[1]⟩,
 ⟨some 16,.load false 1 (.t 15),none,[2]⟩,
 ⟨some 17,.bin .shr (.t 16) (.c (.d (.int .u64 33))),none,[3]⟩,
 ⟨some 18,.move (.t 0),none,[]⟩,
 ⟨some 19,.nilCheck (.t 18),none,[5]⟩,
 ⟨some 20,.fieldAddr 2 (.t 19),none,[6]⟩,
 ⟨some 21,.load false 1 (.t 20),none,[7]⟩,
 ⟨some 22,.bin .shr (.t 21) (.c (.d (.int .u64 45))),none,[8]⟩,
 ⟨some 23,.bin .xor (.t 17) (.t 22),none,[4,9]⟩,
 ⟨some 24,.bin .and (.t 23) (.c (.d (.int .i64 255))),none,[10]⟩,
 ⟨some 3,.move (.t 24),none,[0,1,2,3,4,5,6,7,8,9,10,11]⟩] ⟨r,B++List.replicate na none⟩):=qbx X T na live quA (by kernel_rfl) r B
theorem qAt(X:XEnv)(T:List Nat)(na:Nat)(live:List Nat)(r:List (Nat×AV))(B:qaj):qaC X T (.region true na live quz) ⟨r,B⟩=qee live (qcu (qac X) X.lin T true B.length [
 ⟨some 25,.move (.t 0),none,[]⟩,
 ⟨some 26,.nilCheck (.t 25),none,[0]⟩,
 ⟨some 27,.fieldAddr 1 (.t 26),none,[1]⟩,
 ⟨some 28,.load false 1 (.t 27),none,[2]⟩,
 ⟨some 29,.move (.t 0),none,[]⟩,
 ⟨some 30,.nilCheck (.t 29),none,[4]⟩,
 ⟨some 31,.fieldAddr 0 (.t 30),none,[5]⟩,
 ⟨some 32,.load false 1 (.t 31),none,[6]⟩,
 ⟨some 33,.len false (.t 32),none,[7]⟩,
 ⟨some 34,.bin .lss (.t 28) (.t 33),none,[3,8]⟩] ⟨r,B++List.replicate na none⟩):=qbx X T na live quz (by kernel_rfl) r B
theorem qAs(X:XEnv)(T:List Nat)(na:Nat)(live:List Nat)(r:List (Nat×AV))(B:qaj):qaC X T (.region true na live quy) ⟨r,B⟩=qee live (qcu (qac X) X.lin T true B.length [
 ⟨some 35,.move (.t 3),none,[]⟩,
 ⟨some 36,.move (.t 0),none,[]⟩,
 ⟨some 37,.nilCheck (.t 36),none,[1]⟩,
 ⟨some 38,.fieldAddr 0 (.t 37),none,[2]⟩,
 ⟨some 39,.load false 1 (.t 38),none,[3]⟩,
 ⟨some 40,.move (.t 0),none,[]⟩,
 ⟨some 41,.nilCheck (.t 40),none,[5]⟩,
 ⟨some 42,.fieldAddr 1 (.t 41),none,[6]⟩,
 ⟨some 43,.load false 1 (.t 42),none,[7]⟩,
 ⟨some 44,.indexAddr 1 none (.t 39) (.t 43),none,[4,8]⟩,
 ⟨some 45,.load false 1 (.t 44),none,[9]⟩,
 ⟨some 46,.conv (.kind .i64) (.t 45),none,[10]⟩,
 ⟨some 47,.bin .add (.t 35) (.t 46),none,[0,11]⟩,
 ⟨some 48,.bin .and (.t 47) (.c (.d (.int .i64 255))),none,[12]⟩,
 ⟨some 3,.move (.t 48),none,[0,1,2,3,4,5,6,7,8,9,10,11,12,13]⟩] ⟨r,B++List.replicate na none⟩):=qbx X T na live quy (by kernel_rfl) r B
theorem qGI(X:XEnv)(T:List Nat)(na:Nat)(live:List Nat)(r:List (Nat×AV))(B:qaj):qaC X T (.region true na live qut) ⟨r,B⟩=qee live (qcu (qac X) X.lin T true B.length [
 ⟨some 14,.move (.t 5),none,[]⟩,
 ⟨some 15,.load true 3 (.t 6),none,[]⟩,
 ⟨some 16,.load true 3 (.t 7),none,[]⟩,
 ⟨some 2,.move (.t 14),none,[0]⟩,
 ⟨none,.storeN 3 (.t 3) (.t 15) [7],none,[0,1,3]⟩,
 ⟨none,.store false 3 (.t 4) (.t 16),none,[0,1,2,3,4]⟩] ⟨r,B++List.replicate na none⟩):=qbx X T na live qut (by kernel_rfl) r B
theorem qwd(X:XEnv)(T:List Nat)(na:Nat)(live:List Nat)(r:List (Nat×AV))(B:qaj):qaC X T (.region true na live qus) ⟨r,B⟩=qee live (qcu (qac X) X.lin T true B.length [
 ⟨some 28,.load true 3 (.t 4),none,[]⟩,
 ⟨some 29,.move (.t 8),none,[]⟩,
 ⟨some 30,.call true (.c (.fn 73 [])) [.t 28,.t 29],none,[0,1]⟩,
 ⟨some 31,.load true 3 (.t 5),none,[]⟩,
 ⟨some 32,.move (.t 8),none,[]⟩,
 ⟨some 33,.call true (.c (.fn 73 [])) [.t 31,.t 32],none,[2,3,4]⟩,
 ⟨some 34,.bin .lss (.t 30) (.t 33),none,[2,5]⟩] ⟨r,B++List.replicate na none⟩):=qbx X T na live qus (by kernel_rfl) r B
theorem qqd(X:XEnv)(T:List Nat)(na:Nat)(live:List Nat)(r:List (Nat×AV))(B:qaj):qaC X T (.region true na live qur) ⟨r,B⟩=qee live (qcu (qac X) X.lin T true B.length [
 ⟨some 36,.move (.t 0),none,[]⟩,
 ⟨some 37,.load true 3 (.t 4),none,[]⟩,
 ⟨some 38,.call true (.c (.fn 118 [])) [.t 36,.t 37],none,[0,1]⟩,
 ⟨some 39,.move (.t 0),none,[]⟩,
 ⟨some 40,.load true 3 (.t 5),none,[]⟩,
 ⟨some 41,.call true (.c (.fn 118 [])) [.t 39,.t 40],none,[2,3,4]⟩,
 ⟨some 9,.move (.t 38),none,[0,1,2,5]⟩,
 ⟨some 10,.move (.t 41),none,[0,1,2,3,4,5,6]⟩] ⟨r,B++List.replicate na none⟩):=qbx X T na live qur (by kernel_rfl) r B
theorem qwc(X:XEnv)(T:List Nat)(na:Nat)(live:List Nat)(r:List (Nat×AV))(B:qaj):qaC X T (.region true na live quq) ⟨r,B⟩=qee live (qcu (qac X) X.lin T true B.length [
 ⟨some 29,.load true 3 (.t 4),none,[]⟩,
 ⟨some 30,.move (.t 7),none,[]⟩,
 ⟨some 31,.move (.t 8),none,[]⟩,
 ⟨some 32,.indexAddr 1 none (.t 30) (.t 31),none,[1,2]⟩,
 ⟨some 33,.load false 1 (.t 32),none,[3]⟩,
 ⟨some 34,.call true (.c (.fn 81 [])) [.t 29,.t 33],none,[0,4]⟩,
 ⟨some 35,.load true 3 (.t 5),none,[]⟩,
 ⟨some 36,.move (.t 7),none,[]⟩,
 ⟨some 37,.move (.t 8),none,[]⟩,
 ⟨some 38,.indexAddr 1 none (.t 36) (.t 37),none,[7,8]⟩,
 ⟨some 39,.load false 1 (.t 38),none,[9]⟩,
 ⟨some 40,.call true (.c (.fn 81 [])) [.t 35,.t 39],none,[5,6,10]⟩,
 ⟨some 41,.bin .lss (.t 34) (.t 40),none,[5,11]⟩] ⟨r,B++List.replicate na none⟩):=qbx X T na live quq (by kernel_rfl) r B
theorem qqc(X:XEnv)(T:List Nat)(na:Nat)(live:List Nat)(r:List (Nat×AV))(B:qaj):qaC X T (.region true na live qup) ⟨r,B⟩=qee live (qcu (qac X) X.lin T true B.length [
 ⟨some 42,.move (.t 0),none,[]⟩,
 ⟨some 43,.load true 3 (.t 4),none,[]⟩,
 ⟨some 44,.call true (.c (.fn 117 [])) [.t 42,.t 43],none,[0,1]⟩,
 ⟨some 45,.move (.t 0),none,[]⟩,
 ⟨some 46,.load true 3 (.t 5),none,[]⟩,
 ⟨some 47,.call true (.c (.fn 117 [])) [.t 45,.t 46],none,[2,3,4]⟩,
 ⟨some 9,.move (.t 44),none,[0,1,2,5]⟩,
 ⟨some 10,.move (.t 47),none,[0,1,2,3,4,5,6]⟩] ⟨r,B++List.replicate na none⟩):=qbx X T na live qup (by kernel_rfl) r B
theorem qoE(X:XEnv)(T:List Nat)(na:Nat)(live:List Nat)(r:List (Nat×AV))(B:qaj):qaC X T (.region true na live qob) ⟨r,B⟩=qee live (qcu (qac X) X.lin T true B.length [
 ⟨some 29,.call true (.c (.fn 155 [])) [],none,[]⟩,
 ⟨some 30,.load true 3 (.t 7),none,[]⟩,
 ⟨some 31,.load true 3 (.t 8),none,[]⟩,
 ⟨some 2,.move (.t 29),none,[0]⟩,
 ⟨none,.storeN 3 (.t 3) (.t 30) [8],none,[0,1,3]⟩,
 ⟨none,.store false 3 (.t 4) (.t 31),none,[0,1,2,3,4]⟩] ⟨r,B++List.replicate na none⟩):=qbx X T na live qob (by kernel_rfl) r B
theorem qAr(X:XEnv)(T:List Nat)(na:Nat)(live:List Nat)(r:List (Nat×AV))(B:qaj):qaC X T (.region true na live quk) ⟨r,B⟩=qee live (qcu (qac X) X.lin T true B.length [
 ⟨some 13,.load true 3 (.t 5),none,[]⟩,
 ⟨some 14,.call true (.c (.fn 146 [])) [.t 13],none,[0]⟩,
 ⟨some 15,.load true 3 (.t 4),none,[]⟩,
 ⟨some 16,.call true (.c (.fn 146 [])) [.t 15],none,[1,2]⟩,
 ⟨none,.store false 3 (.t 6) (.t 14),none,[0,1,3]⟩,
 ⟨none,.store false 3 (.t 7) (.t 16),none,[0,1,2,3,4]⟩,
 ⟨some 8,.move (.c (.d (.bool true))),none,[0,1,2,3,4,5]⟩] ⟨r,B++List.replicate na none⟩):=qbx X T na live quk (by kernel_rfl) r B
theorem qAq(X:XEnv)(T:List Nat)(na:Nat)(live:List Nat)(r:List (Nat×AV))(B:qaj):qaC X T (.region true na live quj) ⟨r,B⟩=qee live (qcu (qac X) X.lin T true B.length [
 ⟨some 17,.load true 3 (.t 4),none,[]⟩,
 ⟨some 18,.call true (.c (.fn 146 [])) [.t 17],none,[0]⟩,
 ⟨some 19,.load true 3 (.t 5),none,[]⟩,
 ⟨some 20,.call true (.c (.fn 146 [])) [.t 19],none,[1,2]⟩,
 ⟨some 21,.move (.t 0),none,[]⟩,
 ⟨some 22,.load true 3 (.t 4),none,[]⟩,
 ⟨some 23,.load true 3 (.t 5),none,[]⟩,
 ⟨some 24,.call true (.c (.fn 179 [])) [.t 21,.t 22,.t 23],none,[3,4,5,6]⟩,
 ⟨none,.store false 3 (.t 6) (.t 18),none,[0,1,7]⟩,
 ⟨none,.store false 3 (.t 7) (.t 20),none,[0,1,2,3,8]⟩,
 ⟨some 8,.move (.t 24),none,[0,1,2,3,4,5,6,7,8,9]⟩] ⟨r,B++List.replicate na none⟩):=qbx X T na live quj (by kernel_rfl) r B
theorem qwb(X:XEnv)(T:List Nat)(na:Nat)(live:List Nat)(r:List (Nat×AV))(B:qaj):qaC X T (.region true na live qui) ⟨r,B⟩=qee live (qcu (qac X) X.lin T true B.length [
 ⟨some 11,.load true 3 (.t 4),none,[]⟩,
 ⟨some 12,.call true (.c (.fn 150 [])) [.t 11],none,[0]⟩,
 ⟨some 13,.load true 3 (.t 5),none,[]⟩,
 ⟨some 14,.call true (.c (.fn 150 [])) [.t 13],none,[1,2]⟩,
 ⟨some 9,.alloc 0 [.int .i64 0,.int .i64 0,.sl .nil []],none,[]⟩,
 ⟨some 10,.alloc 1 [.int .i64 0,.int .i64 0,.sl .nil []],none,[]⟩,
 ⟨none,.store true 3 (.t 9) (.t 12),none,[0,1,3,4,5]⟩,
 ⟨none,.store true 3 (.t 10) (.t 14),none,[0,1,2,3,4,5,6]⟩] ⟨r,B++List.replicate na none⟩):=qbx X T na live qui (by kernel_rfl) r B
theorem qwa(X:XEnv)(T:List Nat)(na:Nat)(live:List Nat)(r:List (Nat×AV))(B:qaj):qaC X T (.region true na live quh) ⟨r,B⟩=qee live (qcu (qac X) X.lin T true B.length [
 ⟨some 20,.load true 3 (.t 9),none,[]⟩,
 ⟨some 21,.load true 3 (.t 10),none,[]⟩,
 ⟨none,.storeN 3 (.t 6) (.t 20) [10],none,[0]⟩,
 ⟨none,.store false 3 (.t 7) (.t 21),none,[0,1,2]⟩,
 ⟨some 8,.move (.c (.d (.bool true))),none,[0,1,2,3]⟩] ⟨r,B++List.replicate na none⟩):=qbx X T na live quh (by kernel_rfl) r B
theorem qv9(X:XEnv)(T:List Nat)(na:Nat)(live:List Nat)(r:List (Nat×AV))(B:qaj):qaC X T (.region true na live qug) ⟨r,B⟩=qee live (qcu (qac X) X.lin T true B.length [
 ⟨some 27,.load true 3 (.t 10),none,[]⟩,
 ⟨some 28,.load true 3 (.t 9),none,[]⟩,
 ⟨none,.storeN 3 (.t 6) (.t 27) [9],none,[0]⟩,
 ⟨none,.store false 3 (.t 7) (.t 28),none,[0,1,2]⟩,
 ⟨some 8,.move (.c (.d (.bool true))),none,[0,1,2,3]⟩] ⟨r,B++List.replicate na none⟩):=qbx X T na live qug (by kernel_rfl) r B
theorem qv8(X:XEnv)(T:List Nat)(na:Nat)(live:List Nat)(r:List (Nat×AV))(B:qaj):qaC X T (.region true na live quf) ⟨r,B⟩=qee live (qcu (qac X) X.lin T true B.length [
 ⟨some 29,.load true 3 (.t 9),none,[]⟩,
 ⟨some 30,.load true 3 (.t 10),none,[]⟩,
 ⟨none,.storeN 3 (.t 6) (.t 29) [10],none,[0]⟩,
 ⟨none,.store false 3 (.t 7) (.t 30),none,[0,1,2]⟩,
 ⟨some 8,.move (.c (.d (.bool false))),none,[0,1,2,3]⟩] ⟨r,B++List.replicate na none⟩):=qbx X T na live quf (by kernel_rfl) r B
theorem qom:∀{l:List (Nat×VFn)} {k:Nat} {v:VFn},look l k=some v->(k,v)∈l
 | [],_,_,h=>by simp[look]at h
 |(a,u)::r,k,v,h=>by
  simp only[look]at h;split at h
  ·rename_i hk
   simp at h;subst h;subst hk;simp
  ·exact List.mem_cons_of_mem _ (qom h)
theorem qu2:qr9.all (fun q=>q.2.linOK (qlx qAe q.1))=true:=by kernel_rfl
theorem qKC:XOK XW:=⟨fun f vf h=>List.all_eq_true.1 qu2 (f,vf) (qom h),fun f g h=>by exact absurd h (by simp[XW]),fun f h=>rfl,fun f sf h=>by exact absurd h (by simp[XW])⟩
theorem qx0:qBo.all (fun q=>q.2.pre.linOK (qlx qAe q.1)&&q.2.rest.linOK (qlx qAe q.1)&&qap (qlx qAe q.1) (q.2.results.flatMap VRes.vx)&&(qlx qAe q.1).all (fun j=>decide (q.2.np<=j)))=true:=by kernel_rfl
theorem qpL:∀q,q∈qyx->qwV q.2 (qsD q.2)/\qlx qAe q.1=[]:=List.forall_mem_cons.2 ⟨⟨qrG,by kernel_rfl⟩,List.forall_mem_nil _⟩
theorem xok:XOK XV:=⟨fun f vf h=>List.all_eq_true.1 qu2 (f,vf) (qom h),fun f g h=>⟨qsD g,by show(qjg qyx f).map qsD=_;rw[show qjg qyx f=some g from h];rfl,(qpL (f,g) (qgf h)).1,(qpL (f,g) (qgf h)).2⟩,fun f h=>by show(qjg qyx f).map qsD=_;rw[show qjg qyx f=none from h];rfl,fun f sf h=>by
 have:=List.all_eq_true.1 qx0 (f,sf) (qjf h);simp only[Bool.and_eq_true]at this;exact⟨this.1.1.1,this.1.1.2,this.1.2,this.2⟩⟩
end Go.Proofs.Ytfiakfiocdfpbaa.VS
