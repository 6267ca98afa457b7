/- Which registers of each function may own rows; the functions for the evaluator without names. -/
import Derived.Test.YtpcoohnjllclnaaNat2
import Derived.Test.YtpcoohnjllclnaaCode
import Derived.KernelRfl
set_option linter.unusedVariables false
namespace Go.Proofs.Ytpcoohnjllclnaa.VS
def qAE:List (Nat×List Nat):=[(156,[28,30]),(203,[2,3,5,12,16,17,18]),(205,[19,144,154,161,162]),(206,[2,3,5,9,10,12]),(207,[4,6,9,11,12,13,24,39,45,46,47,49,59,60,61,62,65,66,70,71,76,77,78,79,84]),(208,[4,6,11,20,50,54,55,56,60,61]),(209,[2,3,4,6,7,13,15,30,31,32,39,40,41,42,44]),(210,[2,3,5,6,10,11,13,29,31,32,33]),(211,[2,5,9,16,18,19,20,21]),(212,[4,5,42]),(213,[4,5,9,41,43,44,45]),(218,[4,5,11,12,49,53,54,55,56,60,61,62,63,64]),(220,[4,5,11,12,13,31,33,37,38,39,40,41]),(224,[4,5,8,11,12,13,29,30,32,33,34,35,36,38]),(231,[2,3,5,13,17,18,21,25,26,27])]
def qn5:List (Nat×List Nat)->Nat->List Nat
 | [],_=>[]
 |(k,v)::r,n=>if n=k then v else qn5 r n
noncomputable def XV:XEnv:=⟨E,qn5 qAE,qjC qxu⟩
@[simp] theorem qGU:XV.lin 30=[]:=by kernel_rfl
theorem qwW:XV.env.code 30=some v30:=by kernel_rfl
@[simp] theorem qGT:XV.lin 31=[]:=by kernel_rfl
theorem qwV:XV.env.code 31=some v31:=by kernel_rfl
@[simp] theorem qGS:XV.lin 42=[]:=by kernel_rfl
theorem qwU:XV.env.code 42=some v42:=by kernel_rfl
@[simp] theorem qDp:XV.lin 43=[]:=by kernel_rfl
theorem qwT:XV.env.code 43=some v43:=by kernel_rfl
@[simp] theorem qGR:XV.lin 45=[]:=by kernel_rfl
theorem qp5:XV.env.code 45=some v45:=by kernel_rfl
@[simp] theorem qGQ:XV.lin 46=[]:=by kernel_rfl
theorem qwS:XV.env.code 46=some v46:=by kernel_rfl
@[simp] theorem qy0:XV.lin 47=[]:=by kernel_rfl
theorem qp4:XV.env.code 47=some v47:=by kernel_rfl
@[simp] theorem qGP:XV.lin 48=[]:=by kernel_rfl
theorem qwR:XV.env.code 48=some v48:=by kernel_rfl
@[simp] theorem qyZ:XV.lin 50=[]:=by kernel_rfl
theorem qp3:XV.env.code 50=some v50:=by kernel_rfl
@[simp] theorem qDo:XV.lin 51=[]:=by kernel_rfl
theorem qp2:XV.env.code 51=some v51:=by kernel_rfl
@[simp] theorem qF5:XV.lin 133=[]:=by kernel_rfl
theorem qtO:XV.env.code 133=some qBP:=by kernel_rfl
@[simp] theorem qAP:XV.lin 156=[28,30]:=by kernel_rfl
theorem qtN:XV.env.code 156=some qBO:=by kernel_rfl
@[simp] theorem qF4:XV.lin 159=[]:=by kernel_rfl
theorem qtM:XV.env.code 159=some qBN:=by kernel_rfl
@[simp] theorem qF3:XV.lin 160=[]:=by kernel_rfl
theorem qtL:XV.env.code 160=some qBM:=by kernel_rfl
@[simp] theorem qF2:XV.lin 162=[]:=by kernel_rfl
theorem qmQ:XV.env.code 162=some qym:=by kernel_rfl
@[simp] theorem qF1:XV.lin 165=[]:=by kernel_rfl
theorem qtK:XV.env.code 165=some qz6:=by kernel_rfl
@[simp] theorem qAO:XV.lin 188=[]:=by kernel_rfl
theorem qmP:XV.env.code 188=some qw7:=by kernel_rfl
@[simp] theorem qF0:XV.lin 203=[2,3,5,12,16,17,18]:=by kernel_rfl
theorem qtJ:XV.env.code 203=some qBL:=by kernel_rfl
@[simp] theorem qmg:XV.lin 205=[19,144,154,161,162]:=by kernel_rfl
theorem qtI:XV.env.code 205=some qz5:=by kernel_rfl
@[simp] theorem qFZ:XV.lin 206=[2,3,5,9,10,12]:=by kernel_rfl
theorem qtH:XV.env.code 206=some qBK:=by kernel_rfl
@[simp] theorem qvf:XV.lin 207=[4,6,9,11,12,13,24,39,45,46,47,49,59,60,61,62,65,66,70,71,76,77,78,79,84]:=by kernel_rfl
theorem qtG:XV.env.code 207=some qrJ:=by kernel_rfl
@[simp] theorem qve:XV.lin 208=[4,6,11,20,50,54,55,56,60,61]:=by kernel_rfl
theorem qtF:XV.env.code 208=some qt1:=by kernel_rfl
@[simp] theorem qFY:XV.lin 209=[2,3,4,6,7,13,15,30,31,32,39,40,41,42,44]:=by kernel_rfl
theorem qgr:XV.env.code 209=some qs4:=by kernel_rfl
@[simp] theorem qFX:XV.lin 210=[2,3,5,6,10,11,13,29,31,32,33]:=by kernel_rfl
theorem qtE:XV.env.code 210=some qj5:=by kernel_rfl
@[simp] theorem qAN:XV.lin 211=[2,5,9,16,18,19,20,21]:=by kernel_rfl
theorem qtD:XV.env.code 211=some qBJ:=by kernel_rfl
@[simp] theorem qFW:XV.lin 212=[4,5,42]:=by kernel_rfl
theorem qtC:XV.env.code 212=some qz4:=by kernel_rfl
@[simp] theorem qFV:XV.lin 213=[4,5,9,41,43,44,45]:=by kernel_rfl
theorem qtB:XV.env.code 213=some qz3:=by kernel_rfl
@[simp] theorem qFU:XV.lin 214=[]:=by kernel_rfl
theorem qmO:XV.env.code 214=some qyl:=by kernel_rfl
@[simp] theorem qAM:XV.lin 215=[]:=by kernel_rfl
theorem qtA:XV.env.code 215=some qBI:=by kernel_rfl
@[simp] theorem qAL:XV.lin 216=[]:=by kernel_rfl
theorem qtz:XV.env.code 216=some qBH:=by kernel_rfl
@[simp] theorem qAK:XV.lin 217=[]:=by kernel_rfl
theorem qty:XV.env.code 217=some qz2:=by kernel_rfl
@[simp] theorem qvd:XV.lin 218=[4,5,11,12,49,53,54,55,56,60,61,62,63,64]:=by kernel_rfl
theorem qtx:XV.env.code 218=some qz1:=by kernel_rfl
@[simp] theorem qAJ:XV.lin 219=[]:=by kernel_rfl
theorem qtw:XV.env.code 219=some qz0:=by kernel_rfl
@[simp] theorem qvc:XV.lin 220=[4,5,11,12,13,31,33,37,38,39,40,41]:=by kernel_rfl
theorem qmN:XV.env.code 220=some qw6:=by kernel_rfl
@[simp] theorem qFT:XV.lin 221=[]:=by kernel_rfl
theorem qtv:XV.env.code 221=some qzZ:=by kernel_rfl
@[simp] theorem qFS:XV.lin 222=[]:=by kernel_rfl
theorem qtu:XV.env.code 222=some qzY:=by kernel_rfl
@[simp] theorem qAI:XV.lin 223=[]:=by kernel_rfl
theorem qtt:XV.env.code 223=some qzX:=by kernel_rfl
@[simp] theorem qvb:XV.lin 224=[4,5,8,11,12,13,29,30,32,33,34,35,36,38]:=by kernel_rfl
theorem qmM:XV.env.code 224=some qw5:=by kernel_rfl
@[simp] theorem qFR:XV.lin 226=[]:=by kernel_rfl
theorem qts:XV.env.code 226=some qBG:=by kernel_rfl
@[simp] theorem qFQ:XV.lin 227=[]:=by kernel_rfl
theorem qtr:XV.env.code 227=some qzW:=by kernel_rfl
@[simp] theorem qAH:XV.lin 228=[]:=by kernel_rfl
theorem qtq:XV.env.code 228=some qzV:=by kernel_rfl
@[simp] theorem qFP:XV.lin 230=[]:=by kernel_rfl
theorem qtp:XV.env.code 230=some qBF:=by kernel_rfl
@[simp] theorem qva:XV.lin 231=[2,3,5,13,17,18,21,25,26,27]:=by kernel_rfl
theorem qmL:XV.env.code 231=some qyk:=by kernel_rfl
theorem qxR(X:XEnv)(T:List Nat)(na:Nat)(live:List Nat)(r:List (Nat×AV))(B:qak):qaN X T (.region true na live qAr) ⟨r,B⟩=qkt live (qeu (qau X) X.lin T true B.length [
 ⟨some 15,.move (.t 7),none,[]⟩,
 ⟨some 16,.move (.t 0),none,[]⟩,
 ⟨some 17,.move (.t 8),none,[]⟩,
 ⟨some 18,.indexAddr 1 none (.t 16) (.t 17),none,[1,2]⟩,
 ⟨some 19,.load false 1 (.t 18),none,[3]⟩,
 ⟨some 20,.move (.t 1),none,[]⟩,
 ⟨some 21,.move (.t 2),none,[]⟩,
 ⟨some 22,.move (.t 8),none,[]⟩,
 ⟨some 23,.bin .add (.t 21) (.t 22),none,[6,7]⟩,
 ⟨some 24,.indexAddr 1 none (.t 20) (.t 23),none,[5,8]⟩,
 ⟨some 25,.load false 1 (.t 24),none,[9]⟩,
 ⟨some 26,.bin .mul (.t 19) (.t 25),none,[4,10]⟩,
 ⟨some 27,.bin .add (.t 15) (.t 26),none,[0,11]⟩,
 ⟨some 7,.move (.t 27),none,[0,1,2,3,4,5,6,7,8,9,10,11,12]⟩] ⟨r,B++List.replicate na none⟩):=qeg X T na live qAr (by kernel_rfl) r B
theorem qgj(X:XEnv)(T:List Nat)(na:Nat)(live:List Nat)(r:List (Nat×AV))(B:qak):qaN X T (.region true na live qAq) ⟨r,B⟩=qkt live (qeu (qau X) X.lin T true B.length [
 ⟨some 19,.move (.t 0),none,[]⟩,
 ⟨some 20,.move (.t 6),none,[]⟩,
 ⟨some 21,.indexAddr 1 none (.t 19) (.t 20),none,[0,1]⟩,
 ⟨some 22,.load false 1 (.t 21),none,[2]⟩,
 ⟨some 23,.move (.t 1),none,[]⟩,
 ⟨some 24,.move (.t 6),none,[]⟩,
 ⟨some 25,.indexAddr 1 none (.t 23) (.t 24),none,[4,5]⟩,
 ⟨some 26,.load false 1 (.t 25),none,[6]⟩,
 ⟨some 27,.bin .gtr (.t 22) (.t 26),none,[3,7]⟩] ⟨r,B++List.replicate na none⟩):=qeg X T na live qAq (by kernel_rfl) r B
theorem qgi(X:XEnv)(T:List Nat)(na:Nat)(live:List Nat)(r:List (Nat×AV))(B:qak):qaN X T (.region true na live qAp) ⟨r,B⟩=qkt live (qeu (qau X) X.lin T true B.length [
 ⟨some 28,.move (.t 5),none,[]⟩,
 ⟨some 29,.move (.t 28),none,[0]⟩,
 ⟨some 30,.move (.t 0),some (29,false),[1]⟩,
 ⟨some 31,.move (.t 6),some (29,false),[1]⟩,
 ⟨some 32,.indexAddr 1 none (.t 30) (.t 31),some (29,false),[1,2,3]⟩,
 ⟨some 33,.load false 1 (.t 32),some (29,false),[1,4]⟩,
 ⟨some 34,.move (.t 1),some (29,false),[1]⟩,
 ⟨some 35,.move (.t 6),some (29,false),[1]⟩,
 ⟨some 36,.indexAddr 1 none (.t 34) (.t 35),some (29,false),[1,6,7]⟩,
 ⟨some 37,.load false 1 (.t 36),some (29,false),[1,8]⟩,
 ⟨some 38,.bin .lss (.t 33) (.t 37),some (29,false),[1,5,9]⟩,
 ⟨some 39,.pick (.t 29) (.c (.d (.bool true))) (.t 38),none,[1,10]⟩,
 ⟨some 5,.move (.t 39),none,[0,1,2,3,4,5,6,7,8,9,10,11]⟩] ⟨r,B++List.replicate na none⟩):=qeg X T na live qAp (by kernel_rfl) r B
theorem qpO(X:XEnv)(T:List Nat)(na:Nat)(live:List Nat)(r:List (Nat×AV))(B:qak):qaN X T (.region true na live qAo) ⟨r,B⟩=qkt live (qeu (qau X) X.lin T true B.length [
 ⟨some 17,.move (.t 0),none,[]⟩,
 ⟨some 18,.move (.t 6),none,[]⟩,
 ⟨some 19,.indexAddr 1 none (.t 17) (.t 18),none,[0,1]⟩,
 ⟨some 20,.load false 1 (.t 19),none,[2]⟩,
 ⟨some 21,.move (.t 1),none,[]⟩,
 ⟨some 22,.move (.t 6),none,[]⟩,
 ⟨some 23,.indexAddr 1 none (.t 21) (.t 22),none,[4,5]⟩,
 ⟨some 24,.load false 1 (.t 23),none,[6]⟩,
 ⟨some 25,.bin .gtr (.t 20) (.t 24),none,[3,7]⟩] ⟨r,B++List.replicate na none⟩):=qeg X T na live qAo (by kernel_rfl) r B
theorem qpN(X:XEnv)(T:List Nat)(na:Nat)(live:List Nat)(r:List (Nat×AV))(B:qak):qaN X T (.region true na live qAn) ⟨r,B⟩=qkt live (qeu (qau X) X.lin T true B.length [
 ⟨some 26,.move (.t 5),none,[]⟩,
 ⟨some 27,.move (.t 26),none,[0]⟩,
 ⟨some 28,.move (.t 0),some (27,false),[1]⟩,
 ⟨some 29,.move (.t 6),some (27,false),[1]⟩,
 ⟨some 30,.indexAddr 1 none (.t 28) (.t 29),some (27,false),[1,2,3]⟩,
 ⟨some 31,.load false 1 (.t 30),some (27,false),[1,4]⟩,
 ⟨some 32,.move (.t 1),some (27,false),[1]⟩,
 ⟨some 33,.move (.t 6),some (27,false),[1]⟩,
 ⟨some 34,.indexAddr 1 none (.t 32) (.t 33),some (27,false),[1,6,7]⟩,
 ⟨some 35,.load false 1 (.t 34),some (27,false),[1,8]⟩,
 ⟨some 36,.bin .lss (.t 31) (.t 35),some (27,false),[1,5,9]⟩,
 ⟨some 37,.pick (.t 27) (.c (.d (.bool true))) (.t 36),none,[1,10]⟩,
 ⟨some 5,.move (.t 37),none,[0,1,2,3,4,5,6,7,8,9,10,11]⟩] ⟨r,B++List.replicate na none⟩):=qeg X T na live qAn (by kernel_rfl) r B
theorem qy9(X:XEnv)(T:List Nat)(na:Nat)(live:List Nat)(r:List (Nat×AV))(B:qak):qaN X T (.region true na live quS) ⟨r,B⟩=qkt live (qeu (qau X) X.lin T true B.length [
 ⟨some 13,.move (.t 0),none,[]⟩,
 ⟨some 14,.nilCheck (.t 13),none,[0]⟩,
 ⟨some 15,.fieldAddr 2 (.t 14),none,[1]⟩,
 ⟨some 16,.load false 1 (.t 15),none,[2]⟩,
 ⟨some 17,.bin .shr (.t 16) (.c (.d (.int .u64 33))),none,[3]⟩,
 ⟨some 18,.move (.t 0),none,[]⟩,
 ⟨some 19,.nilCheck (.t 18),none,[5]⟩,
 ⟨some 20,.fieldAddr 2 (.t 19),none,[6]⟩,
 ⟨some 21,.load false 1 (.t 20),none,[7]⟩,
 ⟨some 22,.bin .shr (.t 21) (.c (.d (.int .u64 45))),none,[8]⟩,
 ⟨some 23,.bin .xor (.t 17) (.t 22),none,[4,9]⟩,
 ⟨some 24,.bin .and (.t 23) (.c (.d (.int .i64 255))),none,[10]⟩,
 ⟨some 3,.move (.t 24),none,[0,1,2,3,4,5,6,7,8,9,10,11]⟩] ⟨r,B++List.replicate na none⟩):=qeg X T na live quS (by kernel_rfl) r B
theorem qy8(X:XEnv)(T:List Nat)(na:Nat)(live:List Nat)(r:List (Nat×AV))(B:qak):qaN X T (.region true na live quR) ⟨r,B⟩=qkt live (qeu (qau X) X.lin T true B.length [
 ⟨some 25,.move (.t 0),none,[]⟩,
 ⟨some 26,.nilCheck (.t 25),none,[0]⟩,
 ⟨some 27,.fieldAddr 1 (.t 26),none,[1]⟩,
 ⟨some 28,.load false 1 (.t 27),none,[2]⟩,
 ⟨some 29,.move (.t 0),none,[]⟩,
 ⟨some 30,.nilCheck (.t 29),none,[4]⟩,
 ⟨some 31,.fieldAddr 0 (.t 30),none,[5]⟩,
 ⟨some 32,.load false 1 (.t 31),none,[6]⟩,
 ⟨some 33,.len false (.t 32),none,[7]⟩,
 ⟨some 34,.bin .lss (.t 28) (.t 33),none,[3,8]⟩] ⟨r,B++List.replicate na none⟩):=qeg X T na live quR (by kernel_rfl) r B
theorem qy7(X:XEnv)(T:List Nat)(na:Nat)(live:List Nat)(r:List (Nat×AV))(B:qak):qaN X T (.region true na live quQ) ⟨r,B⟩=qkt live (qeu (qau X) X.lin T true B.length [
 ⟨some 35,.move (.t 3),none,[]⟩,
 ⟨some 36,.move (.t 0),none,[]⟩,
 ⟨some 37,.nilCheck (.t 36),none,[1]⟩,
 ⟨some 38,.fieldAddr 0 (.t 37),none,[2]⟩,
 ⟨some 39,.load false 1 (.t 38),none,[3]⟩,
 ⟨some 40,.move (.t 0),none,[]⟩,
 ⟨some 41,.nilCheck (.t 40),none,[5]⟩,
 ⟨some 42,.fieldAddr 1 (.t 41),none,[6]⟩,
 ⟨some 43,.load false 1 (.t 42),none,[7]⟩,
 ⟨some 44,.indexAddr 1 none (.t 39) (.t 43),none,[4,8]⟩,
 ⟨some 45,.load false 1 (.t 44),none,[9]⟩,
 ⟨some 46,.conv (.kind .i64) (.t 45),none,[10]⟩,
 ⟨some 47,.bin .add (.t 35) (.t 46),none,[0,11]⟩,
 ⟨some 48,.bin .and (.t 47) (.c (.d (.int .i64 255))),none,[12]⟩,
 ⟨some 3,.move (.t 48),none,[0,1,2,3,4,5,6,7,8,9,10,11,12,13]⟩] ⟨r,B++List.replicate na none⟩):=qeg X T na live quQ (by kernel_rfl) r B
theorem qjQ(X:XEnv)(T:List Nat)(na:Nat)(live:List Nat)(r:List (Nat×AV))(B:qak):qaN X T (.region true na live quN) ⟨r,B⟩=qkt live (qeu (qau X) X.lin T true B.length [
 ⟨some 17,.move (.t 0),none,[]⟩,
 ⟨some 18,.move (.t 5),none,[]⟩,
 ⟨some 19,.indexAddr 1 none (.t 17) (.t 18),none,[0,1]⟩,
 ⟨some 20,.load false 1 (.t 19),none,[2]⟩,
 ⟨some 21,.move (.t 1),none,[]⟩,
 ⟨some 22,.move (.t 5),none,[]⟩,
 ⟨some 23,.indexAddr 1 none (.t 21) (.t 22),none,[4,5]⟩,
 ⟨some 24,.load false 1 (.t 23),none,[6]⟩,
 ⟨some 25,.bin .neq (.t 20) (.t 24),none,[3,7]⟩] ⟨r,B++List.replicate na none⟩):=qeg X T na live quN (by kernel_rfl) r B
theorem qmw(X:XEnv)(T:List Nat)(na:Nat)(live:List Nat)(r:List (Nat×AV))(B:qak):qaN X T (.region true na live qpp) ⟨r,B⟩=qkt live (qeu (qau X) X.lin T true B.length [
 ⟨some 102,.move (.t 5),none,[]⟩,
 ⟨some 103,.move (.t 16),none,[]⟩,
 ⟨some 104,.indexAddr 1 none (.t 102) (.t 103),none,[0,1]⟩,
 ⟨some 105,.load false 1 (.t 104),none,[2]⟩,
 ⟨some 106,.move (.t 7),none,[]⟩,
 ⟨some 107,.move (.t 16),none,[]⟩,
 ⟨some 108,.indexAddr 1 none (.t 106) (.t 107),none,[4,5]⟩,
 ⟨some 109,.load false 1 (.t 108),none,[6]⟩,
 ⟨some 110,.call true (.c (.fn 188 [])) [.t 105,.t 109],none,[3,7]⟩,
 ⟨some 111,.not (.t 110),none,[8]⟩,
 ⟨some 112,.move (.t 111),none,[8,9]⟩,
 ⟨some 113,.move (.t 3),some (112,false),[10]⟩,
 ⟨some 114,.move (.t 4),some (112,false),[10]⟩,
 ⟨some 115,.move (.t 5),some (112,false),[10]⟩,
 ⟨some 116,.move (.t 16),some (112,false),[10]⟩,
 ⟨some 117,.indexAddr 1 none (.t 115) (.t 116),some (112,false),[10,13,14]⟩,
 ⟨some 118,.load false 1 (.t 117),some (112,false),[10,15]⟩,
 ⟨some 119,.call true (.c (.fn 43 [])) [.t 113,.t 114,.t 118],some (112,false),[10,11,12,16]⟩,
 ⟨some 120,.not (.t 119),some (112,false),[10,17]⟩,
 ⟨some 121,.pick (.t 112) (.c (.d (.bool true))) (.t 120),none,[10,18]⟩] ⟨r,B++List.replicate na none⟩):=qeg X T na live qpp (by kernel_rfl) r B
theorem qpP(X:XEnv)(T:List Nat)(na:Nat)(live:List Nat)(r:List (Nat×AV))(B:qak):qaN X T (.region true na live qpo) ⟨r,B⟩=qkt live (qeu (qau X) X.lin T true B.length [
 ⟨some 128,.move (.t 5),none,[]⟩,
 ⟨some 129,.move (.t 17),none,[]⟩,
 ⟨some 130,.indexAddr 1 none (.t 128) (.t 129),none,[0,1]⟩,
 ⟨some 131,.load false 1 (.t 130),none,[2]⟩,
 ⟨some 132,.move (.t 5),none,[]⟩,
 ⟨some 133,.move (.t 16),none,[]⟩,
 ⟨some 134,.indexAddr 1 none (.t 132) (.t 133),none,[4,5]⟩,
 ⟨some 135,.load false 1 (.t 134),none,[6]⟩,
 ⟨some 136,.call true (.c (.fn 51 [])) [.t 131,.t 135],none,[3,7]⟩] ⟨r,B++List.replicate na none⟩):=qeg X T na live qpo (by kernel_rfl) r B
theorem qcP(X:XEnv)(T:List Nat)(na:Nat)(live:List Nat)(r:List (Nat×AV))(B:qak):qaN X T (.region true na live qpn) ⟨r,B⟩=qkt live (qeu (qau X) X.lin T true B.length [
 ⟨some 39,.move (.t 7),none,[]⟩,
 ⟨some 40,.move (.t 10),none,[]⟩,
 ⟨some 41,.indexAddr 1 none (.t 39) (.t 40),none,[0,1]⟩,
 ⟨some 42,.load false 1 (.t 41),none,[2]⟩,
 ⟨some 43,.move (.t 7),none,[]⟩,
 ⟨some 44,.move (.t 8),none,[]⟩,
 ⟨some 45,.indexAddr 1 none (.t 43) (.t 44),none,[4,5]⟩,
 ⟨some 46,.load false 1 (.t 45),none,[6]⟩,
 ⟨some 47,.call true (.c (.fn 50 [])) [.t 42,.t 46],none,[3,7]⟩,
 ⟨some 48,.not (.t 47),none,[8]⟩,
 ⟨some 9,.move (.t 48),none,[0,1,2,3,4,5,6,7,8,9]⟩] ⟨r,B++List.replicate na none⟩):=qeg X T na live qpn (by kernel_rfl) r B
theorem qmv(X:XEnv)(T:List Nat)(na:Nat)(live:List Nat)(r:List (Nat×AV))(B:qak):qaN X T (.region true na live qpm) ⟨r,B⟩=qkt live (qeu (qau X) X.lin T true B.length [
 ⟨some 31,.move (.t 5),none,[]⟩,
 ⟨some 32,.move (.t 8),none,[]⟩,
 ⟨some 33,.indexAddr 1 none (.t 31) (.t 32),none,[0,1]⟩,
 ⟨some 34,.load false 1 (.t 33),none,[2]⟩,
 ⟨some 35,.move (.t 7),none,[]⟩,
 ⟨some 36,.move (.t 8),none,[]⟩,
 ⟨some 37,.indexAddr 1 none (.t 35) (.t 36),none,[4,5]⟩,
 ⟨some 38,.load false 1 (.t 37),none,[6]⟩,
 ⟨some 39,.bin .add (.t 34) (.t 38),none,[3,7]⟩,
 ⟨some 40,.indexAddr 1 none (.t 31) (.t 32),none,[0,1,2,3,4,5,6,7,8]⟩,
 ⟨none,.store false 1 (.t 40) (.t 39),none,[0,1,2,3,4,5,6,7,8,9]⟩] ⟨r,B++List.replicate na none⟩):=qeg X T na live qpm (by kernel_rfl) r B
theorem qu7:∀{l:List (Nat×VFn)} {k:Nat} {v:VFn},look l k=some v->(k,v)∈l
 | [],_,_,h=>by simp[look]at h
 |(a,u)::r,k,v,h=>by
  simp only[look]at h;split at h
  ·rename_i hk
   simp at h;subst h;subst hk;simp
  ·exact List.mem_cons_of_mem _ (qu7 h)
theorem qAG:qxT.all (fun q=>q.2.linOK (qn5 qAE q.1))=true:=by kernel_rfl
theorem qxh:qAc.all (fun q=>q.2.pre.linOK (qn5 qAE q.1)&&q.2.rest.linOK (qn5 qAE q.1)&&qaj (qn5 qAE q.1) (q.2.results.flatMap VRes.vx)&&(qn5 qAE q.1).all (fun j=>decide (q.2.np<=j)))=true:=by kernel_rfl
theorem qqV:∀q,q∈qxu->qwy q.2 (qs6 q.2)/\qn5 qAE q.1=[]:=List.forall_mem_cons.2 ⟨⟨qsy,by kernel_rfl⟩,List.forall_mem_nil _⟩
theorem xok:XOK XV:=⟨fun f vf h=>List.all_eq_true.1 qAG (f,vf) (qu7 h),fun f g h=>⟨qs6 g,by show(qjC qxu f).map qs6=_;rw[show qjC qxu f=some g from h];rfl,(qqV (f,g) (qgO h)).1,(qqV (f,g) (qgO h)).2⟩,fun f h=>by show(qjC qxu f).map qs6=_;rw[show qjC qxu f=none from h];rfl,fun f sf h=>by
 have:=List.all_eq_true.1 qxh (f,sf) (qjB h);simp only[Bool.and_eq_true]at this;exact⟨this.1.1.1,this.1.1.2,this.1.2,this.2⟩⟩
end Go.Proofs.Ytpcoohnjllclnaa.VS
