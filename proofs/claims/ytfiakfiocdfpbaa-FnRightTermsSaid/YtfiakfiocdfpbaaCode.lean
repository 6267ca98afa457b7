/- The code of the functions that the laws reach, for the evaluator. -/
import Derived.Test.YtfiakfiocdfpbaaNat0
import Derived.KernelRfl
set_option linter.unusedVariables false
namespace Go.Proofs.Ytfiakfiocdfpbaa.VS
def qEJ:List VOper:=[
 ⟨some 2,.box 0 (.t 0),none,[]⟩,
 ⟨some 3,.box 1 (.t 1),none,[]⟩,
 ⟨some 4,.move (.c (.d (.bool false))),none,[]⟩]
def qEI:List VOper:=[
 ⟨some 6,.fieldAddr 0 (.t 2),none,[]⟩,
 ⟨some 7,.load false 1 (.t 6),none,[]⟩,
 ⟨some 8,.fieldAddr 0 (.t 3),none,[]⟩,
 ⟨some 9,.load false 1 (.t 8),none,[]⟩,
 ⟨some 10,.bin .neq (.t 7) (.t 9),none,[]⟩,
 ⟨some 11,.move (.t 10),none,[]⟩,
 ⟨some 12,.fieldAddr 1 (.t 2),some (11,false),[]⟩,
 ⟨some 13,.load false 1 (.t 12),some (11,false),[]⟩,
 ⟨some 14,.fieldAddr 1 (.t 3),some (11,false),[]⟩,
 ⟨some 15,.load false 1 (.t 14),some (11,false),[]⟩,
 ⟨some 16,.bin .neq (.t 13) (.t 15),some (11,false),[]⟩,
 ⟨some 17,.pick (.t 11) (.c (.d (.bool true))) (.t 16),none,[]⟩,
 ⟨some 18,.move (.t 17),none,[]⟩,
 ⟨some 19,.fieldAddr 2 (.t 2),some (18,false),[]⟩,
 ⟨some 20,.load false 1 (.t 19),some (18,false),[]⟩,
 ⟨some 21,.len false (.t 20),some (18,false),[]⟩,
 ⟨some 22,.fieldAddr 2 (.t 3),some (18,false),[]⟩,
 ⟨some 23,.load false 1 (.t 22),some (18,false),[]⟩,
 ⟨some 24,.len false (.t 23),some (18,false),[]⟩,
 ⟨some 25,.bin .neq (.t 21) (.t 24),some (18,false),[]⟩,
 ⟨some 26,.pick (.t 18) (.c (.d (.bool true))) (.t 25),none,[]⟩]
def qEH:List VOper:=[
 ⟨some 4,.move (.c (.d (.bool false))),none,[]⟩]
def qJV:List VOper:=[
 ⟨some 5,.move (.c (.d (.int .i64 0))),none,[]⟩]
def qGO:List VOper:=[
 ⟨some 27,.move (.t 5),none,[]⟩,
 ⟨some 28,.fieldAddr 2 (.t 2),none,[]⟩,
 ⟨some 29,.load false 1 (.t 28),none,[]⟩,
 ⟨some 30,.len false (.t 29),none,[]⟩,
 ⟨some 31,.bin .lss (.t 27) (.t 30),none,[]⟩]
def qH4:List VOper:=[
 ⟨some 34,.fieldAddr 2 (.t 2),none,[]⟩,
 ⟨some 35,.load false 1 (.t 34),none,[0]⟩,
 ⟨some 36,.move (.t 5),none,[]⟩,
 ⟨some 37,.indexAddr 3 none (.t 35) (.t 36),none,[1,2]⟩,
 ⟨some 38,.load true 3 (.t 37),none,[3]⟩,
 ⟨some 39,.fieldAddr 2 (.t 3),none,[]⟩,
 ⟨some 40,.load false 1 (.t 39),none,[5]⟩,
 ⟨some 41,.move (.t 5),none,[]⟩,
 ⟨some 42,.indexAddr 3 none (.t 40) (.t 41),none,[6,7]⟩,
 ⟨some 43,.load true 3 (.t 42),none,[8]⟩,
 ⟨some 44,.call true (.c (.fn 3 [])) [.t 38,.t 43],none,[4,9]⟩,
 ⟨some 45,.not (.t 44),none,[10]⟩]
def qH3:List VOper:=[
 ⟨some 4,.move (.c (.d (.bool false))),none,[]⟩]
def qH5:List VOper:=[
 ⟨some 32,.move (.t 5),none,[]⟩,
 ⟨some 33,.bin .add (.t 32) (.c (.d (.int .i64 1))),none,[]⟩,
 ⟨some 5,.move (.t 33),none,[]⟩]
def qGF:VCode:=(.seq (.seq (.region false 0 [2,3,5,31] qGO) (.cond (.t 31) .skip (.exit 0))) (.seq (.block 1 (.seq (.region true 0 [2,3,5,45] qH4) (.cond (.t 45) (.seq (.region false 0 [4] qH3) .ret) .skip))) (.region false 0 [2,3,5] qH5)))
def qH2:List VOper:=[
 ⟨some 4,.move (.c (.d (.bool true))),none,[]⟩]
def v3:VFn:=⟨2,[.tmp 4],(.seq (.region false 2 [2,3] qEJ) (.seq (.seq (.region false 0 [2,3,26] qEI) (.cond (.t 26) (.seq (.region false 0 [4] qEH) .ret) .skip)) (.seq (.seq (.region false 0 [2,3,5] qJV) (.block 0 (.loop [2,3,5] qGF))) (.seq (.region false 0 [4] qH2) .ret))))⟩
def qJU:List VOper:=[
 ⟨some 2,.box 0 (.t 0),none,[]⟩,
 ⟨some 3,.box 1 (.t 1),none,[]⟩,
 ⟨some 4,.move (.c (.d (.bool false))),none,[]⟩]
def qJT:List VOper:=[
 ⟨some 5,.load true 3 (.t 2),none,[]⟩,
 ⟨some 6,.load true 3 (.t 3),none,[]⟩,
 ⟨some 7,.call true (.c (.fn 6 [])) [.t 5,.t 6],none,[]⟩,
 ⟨some 8,.bin .eql (.t 7) (.c (.d (.int .i64 0))),none,[]⟩,
 ⟨some 4,.move (.t 8),none,[]⟩]
def v4:VFn:=⟨2,[.tmp 4],(.seq (.region false 2 [2,3] qJU) (.seq (.region false 0 [4] qJT) .ret))⟩
def qH1:List VOper:=[
 ⟨some 2,.box 0 (.t 0),none,[]⟩,
 ⟨some 3,.box 1 (.t 1),none,[]⟩,
 ⟨some 4,.move (.c (.d (.int .i64 0))),none,[]⟩]
def qH0:List VOper:=[
 ⟨some 9,.fieldAddr 0 (.t 2),none,[]⟩,
 ⟨some 10,.load false 1 (.t 9),none,[]⟩,
 ⟨some 11,.fieldAddr 0 (.t 3),none,[]⟩,
 ⟨some 12,.load false 1 (.t 11),none,[]⟩,
 ⟨some 13,.build [.int .i64 0,.int .i64 0] [(0,1,.t 10),(1,1,.t 12)],none,[]⟩,
 ⟨some 14,.fieldAddr 1 (.t 2),none,[]⟩,
 ⟨some 15,.load false 1 (.t 14),none,[]⟩,
 ⟨some 16,.fieldAddr 1 (.t 3),none,[]⟩,
 ⟨some 17,.load false 1 (.t 16),none,[]⟩,
 ⟨some 18,.build [.int .i64 0,.int .i64 0] [(0,1,.t 15),(1,1,.t 17)],none,[]⟩,
 ⟨some 19,.fieldAddr 2 (.t 2),none,[]⟩,
 ⟨some 20,.load false 1 (.t 19),none,[]⟩,
 ⟨some 21,.len false (.t 20),none,[]⟩,
 ⟨some 22,.fieldAddr 2 (.t 3),none,[]⟩,
 ⟨some 23,.load false 1 (.t 22),none,[]⟩,
 ⟨some 24,.len false (.t 23),none,[]⟩,
 ⟨some 25,.build [.int .i64 0,.int .i64 0] [(0,1,.t 21),(1,1,.t 24)],none,[]⟩,
 ⟨some 26,.buildSlice 2 (.agg [.int .i64 0,.int .i64 0]) 3 [(0,.t 13),(1,.t 18),(2,.t 25)],none,[]⟩,
 ⟨some 27,.len false (.t 26),none,[]⟩,
 ⟨some 28,.move (.c (.d (.int .i64 0))),none,[]⟩]
def qym:List VOper:=[
 ⟨some 29,.bin .lss (.t 28) (.t 27),none,[]⟩]
def qBP:List VOper:=[
 ⟨some 30,.indexAddr 2 none (.t 26) (.t 28),none,[]⟩,
 ⟨some 31,.load true 2 (.t 30),none,[]⟩,
 ⟨some 6,.alloc 0 [.int .i64 0,.int .i64 0],none,[]⟩,
 ⟨none,.store false 2 (.t 6) (.t 31),none,[]⟩]
def qBO:List VOper:=[
 ⟨some 33,.indexAddr 1 (some 2) (.t 6) (.c (.d (.int .i64 0))),none,[]⟩,
 ⟨some 34,.load false 1 (.t 33),none,[]⟩,
 ⟨some 35,.indexAddr 1 (some 2) (.t 6) (.c (.d (.int .i64 1))),none,[]⟩,
 ⟨some 36,.load false 1 (.t 35),none,[]⟩,
 ⟨some 37,.bin .lss (.t 34) (.t 36),none,[]⟩,
 ⟨some 32,.move (.t 37),none,[]⟩]
def qBN:List VOper:=[
 ⟨some 4,.move (.c (.d (.int .i64 (-1)))),none,[]⟩]
def qEp:List VOper:=[
 ⟨some 39,.indexAddr 1 (some 2) (.t 6) (.c (.d (.int .i64 0))),none,[]⟩,
 ⟨some 40,.load false 1 (.t 39),none,[]⟩,
 ⟨some 41,.indexAddr 1 (some 2) (.t 6) (.c (.d (.int .i64 1))),none,[]⟩,
 ⟨some 42,.load false 1 (.t 41),none,[]⟩,
 ⟨some 43,.bin .gtr (.t 40) (.t 42),none,[]⟩,
 ⟨some 38,.move (.t 43),none,[]⟩]
def qEo:List VOper:=[
 ⟨some 4,.move (.c (.d (.int .i64 1))),none,[]⟩]
def qHZ:List VOper:=[
 ⟨some 44,.bin .add (.t 28) (.c (.d (.int .i64 1))),none,[]⟩,
 ⟨some 28,.move (.t 44),none,[]⟩]
def qss:VCode:=(.seq (.region false 0 [2,3,26,27,28,29] qym) (.seq (.cond (.t 29) .skip (.exit 0)) (.seq (.block 1 (.seq (.region false 1 [2,3,6,26,27,28] qBP) (.block 2 (.seq (.region false 0 [2,3,6,26,27,28,32] qBO) (.cond (.t 32) (.seq (.region false 0 [4] qBN) .ret) (.seq (.region false 0 [2,3,26,27,28,38] qEp) (.cond (.t 38) (.seq (.region false 0 [4] qEo) .ret) .skip))))))) (.region false 0 [2,3,26,27,28] qHZ))))
def qHY:List VOper:=[
 ⟨some 45,.fieldAddr 2 (.t 2),none,[]⟩,
 ⟨some 46,.load false 1 (.t 45),none,[]⟩,
 ⟨some 47,.len false (.t 46),none,[]⟩,
 ⟨some 48,.move (.c (.d (.int .i64 0))),none,[]⟩]
def qot:List VOper:=[
 ⟨some 49,.bin .lss (.t 48) (.t 47),none,[]⟩]
def qt3:List VOper:=[
 ⟨some 50,.move (.t 48),none,[]⟩,
 ⟨some 7,.move (.t 50),none,[]⟩]
def qBR:List VOper:=[
 ⟨some 51,.fieldAddr 2 (.t 2),none,[]⟩,
 ⟨some 52,.load false 1 (.t 51),none,[0]⟩,
 ⟨some 53,.move (.t 7),none,[]⟩,
 ⟨some 54,.indexAddr 3 none (.t 52) (.t 53),none,[1,2]⟩,
 ⟨some 55,.load true 3 (.t 54),none,[3]⟩,
 ⟨some 56,.fieldAddr 2 (.t 3),none,[]⟩,
 ⟨some 57,.load false 1 (.t 56),none,[5]⟩,
 ⟨some 58,.move (.t 7),none,[]⟩,
 ⟨some 59,.indexAddr 3 none (.t 57) (.t 58),none,[6,7]⟩,
 ⟨some 60,.load true 3 (.t 59),none,[8]⟩,
 ⟨some 61,.call true (.c (.fn 6 [])) [.t 55,.t 60],none,[4,9]⟩,
 ⟨some 8,.move (.t 61),none,[0,1,2,3,4,5,6,7,8,9,10]⟩]
def qt2:List VOper:=[
 ⟨some 62,.move (.t 8),none,[]⟩,
 ⟨some 63,.bin .neq (.t 62) (.c (.d (.int .i64 0))),none,[]⟩]
def qt1:List VOper:=[
 ⟨some 64,.move (.t 8),none,[]⟩,
 ⟨some 4,.move (.t 64),none,[]⟩]
def qt0:List VOper:=[
 ⟨some 65,.bin .add (.t 48) (.c (.d (.int .i64 1))),none,[]⟩,
 ⟨some 48,.move (.t 65),none,[]⟩]
def qwK:VCode:=(.seq (.region false 0 [2,3,47,48,49] qot) (.seq (.cond (.t 49) .skip (.exit 3)) (.seq (.block 4 (.seq (.region false 0 [2,3,7,47,48] qt3) (.seq (.region true 0 [2,3,8,47,48] qBR) (.seq (.region false 0 [2,3,8,47,48,63] qt2) (.cond (.t 63) (.seq (.region false 0 [4] qt1) .ret) .skip))))) (.region false 0 [2,3,47,48] qt0))))
def qBQ:List VOper:=[
 ⟨some 4,.move (.c (.d (.int .i64 0))),none,[]⟩]
def v6:VFn:=⟨2,[.tmp 4],(.seq (.region false 2 [2,3] qH1) (.seq (.seq (.region false 0 [2,3,26,27,28] qH0) (.block 0 (.loop [2,3,26,27,28] qss))) (.seq (.seq (.region false 0 [2,3,47,48] qHY) (.block 3 (.loop [2,3,47,48] qwK))) (.seq (.region false 0 [4] qBQ) .ret))))⟩
def qrs:List VOper:=[
 ⟨some 4,.move (.c (.d (.int .i64 0))),none,[]⟩]
def qrr:List VOper:=[
 ⟨some 5,.move (.c (.d (.int .i64 0))),none,[]⟩]
def qrq:List VOper:=[
 ⟨some 6,.move (.t 5),none,[]⟩,
 ⟨some 7,.move (.t 0),none,[]⟩,
 ⟨some 8,.len false (.t 7),none,[]⟩,
 ⟨some 9,.bin .lss (.t 6) (.t 8),none,[]⟩]
def qro:List VOper:=[
 ⟨some 12,.move (.t 0),none,[]⟩,
 ⟨some 13,.move (.t 5),none,[]⟩,
 ⟨some 14,.indexAddr 3 none (.t 12) (.t 13),none,[]⟩,
 ⟨some 15,.fieldAddr 0 (.t 14),none,[]⟩,
 ⟨some 16,.load false 1 (.t 15),none,[]⟩,
 ⟨some 17,.move (.t 1),none,[]⟩,
 ⟨some 18,.bin .eql (.t 16) (.t 17),none,[]⟩]
def qrn:List VOper:=[
 ⟨some 19,.move (.t 5),none,[]⟩,
 ⟨some 4,.move (.t 19),none,[]⟩]
def qrp:List VOper:=[
 ⟨some 10,.move (.t 5),none,[]⟩,
 ⟨some 11,.bin .add (.t 10) (.c (.d (.int .i64 1))),none,[]⟩,
 ⟨some 5,.move (.t 11),none,[]⟩]
def qwO:VCode:=(.seq (.seq (.region false 0 [0,1,5,9] qrq) (.cond (.t 9) .skip (.exit 0))) (.seq (.block 1 (.seq (.region false 0 [0,1,5,18] qro) (.cond (.t 18) (.seq (.region false 0 [4] qrn) .ret) .skip))) (.region false 0 [0,1,5] qrp)))
def qrm:List VOper:=[
 ⟨some 4,.move (.c (.d (.int .i64 (-1)))),none,[]⟩]
def v13:VFn:=⟨2,[.tmp 4],(.seq (.region false 0 [0,1] qrs) (.seq (.seq (.region false 0 [0,1,5] qrr) (.block 0 (.loop [0,1,5] qwO))) (.seq (.region false 0 [4] qrm) .ret)))⟩
def qE7:List VOper:=[
 ⟨some 3,.box 0 (.t 1),none,[]⟩,
 ⟨some 4,.move (.c (.d (.int .i64 0))),none,[]⟩]
def qE6:List VOper:=[
 ⟨some 5,.move (.t 0),none,[]⟩,
 ⟨some 6,.makeFunc 18 [.t 3],none,[]⟩,
 ⟨some 7,.call false (.c (.fn 19 [])) [.t 5,.t 6],none,[]⟩,
 ⟨some 4,.move (.t 7),none,[]⟩]
def v14:VFn:=⟨2,[.tmp 4],(.seq (.region false 1 [0,3] qE7) (.seq (.region false 0 [4] qE6) .ret))⟩
def qE5:List VOper:=[
 ⟨some 2,.box 0 (.t 0),none,[]⟩,
 ⟨some 3,.move (.c (.d (.bool false))),none,[]⟩]
def qE4:List VOper:=[
 ⟨some 4,.fieldAddr 0 (.t 2),none,[]⟩,
 ⟨some 5,.load false 1 (.t 4),none,[]⟩,
 ⟨some 6,.load false 1 (.t 1),none,[]⟩,
 ⟨some 7,.bin .eql (.t 5) (.t 6),none,[]⟩,
 ⟨some 3,.move (.t 7),none,[]⟩]
def v18:VFn:=⟨2,[.tmp 3],(.seq (.region false 1 [1,2] qE5) (.seq (.region false 0 [3] qE4) .ret))⟩
def qrl:List VOper:=[
 ⟨some 4,.move (.c (.d (.int .i64 0))),none,[]⟩]
def qrk:List VOper:=[
 ⟨some 6,.move (.t 0),none,[]⟩,
 ⟨some 7,.len false (.t 6),none,[]⟩,
 ⟨some 8,.move (.c (.d (.int .i64 0))),none,[]⟩]
def qrj:List VOper:=[
 ⟨some 9,.bin .lss (.t 8) (.t 7),none,[]⟩]
def qri:List VOper:=[
 ⟨some 10,.move (.t 8),none,[]⟩,
 ⟨some 5,.move (.t 10),none,[]⟩]
def qrh:List VOper:=[
 ⟨some 11,.move (.t 1),none,[]⟩,
 ⟨some 12,.move (.t 0),none,[]⟩,
 ⟨some 13,.move (.t 5),none,[]⟩,
 ⟨some 14,.indexAddr 3 none (.t 12) (.t 13),none,[]⟩,
 ⟨some 15,.load true 3 (.t 14),none,[]⟩,
 ⟨some 16,.call false (.t 11) [.t 15],none,[]⟩]
def qrg:List VOper:=[
 ⟨some 17,.move (.t 5),none,[]⟩,
 ⟨some 4,.move (.t 17),none,[]⟩]
def qrf:List VOper:=[
 ⟨some 18,.bin .add (.t 8) (.c (.d (.int .i64 1))),none,[]⟩,
 ⟨some 8,.move (.t 18),none,[]⟩]
def qwN:VCode:=(.seq (.region false 0 [0,1,7,8,9] qrj) (.seq (.cond (.t 9) .skip (.exit 0)) (.seq (.block 1 (.seq (.region false 0 [0,1,5,7,8] qri) (.seq (.region false 0 [0,1,5,7,8,16] qrh) (.cond (.t 16) (.seq (.region false 0 [4] qrg) .ret) .skip)))) (.region false 0 [0,1,7,8] qrf))))
def qre:List VOper:=[
 ⟨some 4,.move (.c (.d (.int .i64 (-1)))),none,[]⟩]
def v19:VFn:=⟨2,[.tmp 4],(.seq (.region false 0 [0,1] qrl) (.seq (.seq (.region false 0 [0,1,7,8] qrk) (.block 0 (.loop [0,1,7,8] qwN))) (.seq (.region false 0 [4] qre) .ret)))⟩
def qE3:List VOper:=[
 ⟨some 1,.box 0 (.t 0),none,[]⟩,
 ⟨some 2,.move (.c (.d (.int .i64 0))),none,[]⟩]
def qE2:List VOper:=[
 ⟨some 3,.move (.c (.d (.int .i64 1))),none,[]⟩]
def qE1:List VOper:=[
 ⟨some 4,.move (.c (.d (.int .i64 0))),none,[]⟩]
def qB3:List VOper:=[
 ⟨some 5,.move (.t 4),none,[]⟩,
 ⟨some 6,.fieldAddr 2 (.t 1),none,[]⟩,
 ⟨some 7,.load false 1 (.t 6),none,[]⟩,
 ⟨some 8,.len false (.t 7),none,[]⟩,
 ⟨some 9,.bin .lss (.t 5) (.t 8),none,[]⟩]
def qEZ:List VOper:=[
 ⟨some 12,.move (.t 3),none,[]⟩,
 ⟨some 13,.fieldAddr 2 (.t 1),none,[]⟩,
 ⟨some 14,.load false 1 (.t 13),none,[]⟩,
 ⟨some 15,.move (.t 4),none,[]⟩,
 ⟨some 16,.indexAddr 3 none (.t 14) (.t 15),none,[]⟩,
 ⟨some 17,.load true 3 (.t 16),none,[]⟩,
 ⟨some 18,.call true (.c (.fn 22 [])) [.t 17],none,[]⟩,
 ⟨some 19,.bin .add (.t 12) (.t 18),none,[]⟩,
 ⟨some 3,.move (.t 19),none,[]⟩]
def qE0:List VOper:=[
 ⟨some 10,.move (.t 4),none,[]⟩,
 ⟨some 11,.bin .add (.t 10) (.c (.d (.int .i64 1))),none,[]⟩,
 ⟨some 4,.move (.t 11),none,[]⟩]
def qzg:VCode:=(.seq (.seq (.region false 0 [1,3,4,9] qB3) (.cond (.t 9) .skip (.exit 0))) (.seq (.block 1 (.region false 0 [1,3,4] qEZ)) (.region false 0 [1,3,4] qE0)))
def qEY:List VOper:=[
 ⟨some 20,.move (.t 3),none,[]⟩,
 ⟨some 2,.move (.t 20),none,[]⟩]
def v22:VFn:=⟨1,[.tmp 2],(.seq (.region false 1 [1] qE3) (.seq (.region false 0 [1,3] qE2) (.seq (.seq (.region false 0 [1,3,4] qE1) (.block 0 (.loop [1,3,4] qzg))) (.seq (.region false 0 [2] qEY) .ret))))⟩
def qEX:List VOper:=[
 ⟨some 1,.box 0 (.t 0),none,[]⟩,
 ⟨some 2,.move (.c (.d (.int .i64 0))),none,[]⟩]
def qEW:List VOper:=[
 ⟨some 3,.alloc 0 [.int .i64 0],none,[]⟩,
 ⟨none,.store false 1 (.t 3) (.c (.d (.int .i64 0))),none,[]⟩]
def qEV:List VOper:=[
 ⟨some 4,.load true 3 (.t 1),none,[]⟩,
 ⟨some 5,.makeFunc 24 [.t 3],none,[]⟩,
 ⟨some 6,.call false (.c (.fn 25 [])) [.t 4,.t 5],none,[]⟩]
def qEU:List VOper:=[
 ⟨some 7,.load false 1 (.t 3),none,[]⟩,
 ⟨some 2,.move (.t 7),none,[]⟩]
def v23:VFn:=⟨1,[.tmp 2],(.seq (.region false 1 [1] qEX) (.seq (.region false 1 [1,3] qEW) (.seq (.region false 0 [3] qEV) (.seq (.region false 0 [2] qEU) .ret))))⟩
def qET:List VOper:=[
 ⟨some 2,.box 0 (.t 0),none,[]⟩]
def qES:List VOper:=[
 ⟨some 3,.load false 1 (.t 1),none,[]⟩,
 ⟨some 4,.bin .add (.t 3) (.c (.d (.int .i64 1))),none,[]⟩,
 ⟨none,.store false 1 (.t 1) (.t 4),none,[]⟩]
def v24:VFn:=⟨2,[],(.seq (.region false 1 [1] qET) (.region false 0 [] qES))⟩
def qER:List VOper:=[
 ⟨some 2,.box 0 (.t 0),none,[]⟩]
def qEQ:List VOper:=[
 ⟨some 6,.move (.t 1),none,[]⟩,
 ⟨some 7,.load true 3 (.t 2),none,[]⟩,
 ⟨some 8,.call false (.t 6) [.t 7],none,[]⟩]
def qEP:List VOper:=[
 ⟨some 9,.fieldAddr 2 (.t 2),none,[]⟩,
 ⟨some 10,.load false 1 (.t 9),none,[]⟩,
 ⟨some 11,.len false (.t 10),none,[]⟩,
 ⟨some 12,.move (.c (.d (.int .i64 0))),none,[]⟩]
def qB2:List VOper:=[
 ⟨some 13,.bin .lss (.t 12) (.t 11),none,[]⟩]
def qEO:List VOper:=[
 ⟨some 14,.indexAddr 3 none (.t 10) (.t 12),none,[]⟩,
 ⟨some 15,.load true 3 (.t 14),none,[]⟩,
 ⟨some 5,.alloc 0 [.int .i64 0,.int .i64 0,.sl .nil []],none,[]⟩,
 ⟨none,.store false 3 (.t 5) (.t 15),none,[]⟩]
def qEN:List VOper:=[
 ⟨some 16,.load true 3 (.t 5),none,[]⟩,
 ⟨some 17,.move (.t 1),none,[]⟩,
 ⟨some 18,.call false (.c (.fn 25 [])) [.t 16,.t 17],none,[]⟩]
def qEM:List VOper:=[
 ⟨some 19,.bin .add (.t 12) (.c (.d (.int .i64 1))),none,[]⟩,
 ⟨some 12,.move (.t 19),none,[]⟩]
def qzf:VCode:=(.seq (.region false 0 [1,10,11,12,13] qB2) (.seq (.cond (.t 13) .skip (.exit 0)) (.seq (.block 1 (.seq (.region false 1 [1,5,10,11,12] qEO) (.region false 0 [1,10,11,12] qEN))) (.region false 0 [1,10,11,12] qEM))))
def v25:VFn:=⟨2,[],(.seq (.region false 1 [1,2] qER) (.seq (.region false 0 [1,2] qEQ) (.seq (.region false 0 [1,10,11,12] qEP) (.block 0 (.loop [1,10,11,12] qzf)))))⟩
def qEL:List VOper:=[
 ⟨some 4,.move (.c (.d (.bool false))),none,[]⟩]
def qEK:List VOper:=[
 ⟨some 5,.move (.t 1),none,[]⟩,
 ⟨some 6,.move (.t 0),none,[]⟩,
 ⟨some 7,.len false (.t 6),none,[]⟩,
 ⟨some 8,.bin .sub (.t 7) (.c (.d (.int .i64 1))),none,[]⟩,
 ⟨some 9,.call true (.c (.fn 30 [])) [.t 5,.c (.d (.int .i64 0)),.t 8],none,[]⟩,
 ⟨some 4,.move (.t 9),none,[]⟩]
def v29:VFn:=⟨2,[.tmp 4],(.seq (.region false 0 [0,1] qEL) (.seq (.region false 0 [4] qEK) .ret))⟩
def qB1:List VOper:=[
 ⟨some 6,.move (.c (.d (.bool false))),none,[]⟩]
def qB0:List VOper:=[
 ⟨some 7,.move (.t 0),none,[]⟩,
 ⟨some 8,.move (.t 1),none,[]⟩,
 ⟨some 9,.bin .geq (.t 7) (.t 8),none,[]⟩,
 ⟨some 10,.move (.t 9),none,[]⟩,
 ⟨some 11,.move (.t 0),some (10,true),[]⟩,
 ⟨some 12,.move (.t 2),some (10,true),[]⟩,
 ⟨some 13,.bin .leq (.t 11) (.t 12),some (10,true),[]⟩,
 ⟨some 14,.pick (.t 10) (.t 13) (.c (.d (.bool false))),none,[]⟩,
 ⟨some 6,.move (.t 14),none,[]⟩]
def v30:VFn:=⟨3,[.tmp 6],(.seq (.region false 0 [0,1,2] qB1) (.seq (.region false 0 [6] qB0) .ret))⟩
def qBZ:List VOper:=[
 ⟨some 6,.move (.c (.d (.bool false))),none,[]⟩]
def qBY:List VOper:=[
 ⟨some 7,.move (.t 0),none,[]⟩,
 ⟨some 8,.move (.t 1),none,[]⟩,
 ⟨some 9,.bin .geq (.t 7) (.t 8),none,[]⟩,
 ⟨some 10,.move (.t 9),none,[]⟩,
 ⟨some 11,.move (.t 0),some (10,true),[]⟩,
 ⟨some 12,.move (.t 2),some (10,true),[]⟩,
 ⟨some 13,.bin .leq (.t 11) (.t 12),some (10,true),[]⟩,
 ⟨some 14,.pick (.t 10) (.t 13) (.c (.d (.bool false))),none,[]⟩,
 ⟨some 6,.move (.t 14),none,[]⟩]
def v31:VFn:=⟨3,[.tmp 6],(.seq (.region false 0 [0,1,2] qBZ) (.seq (.region false 0 [6] qBY) .ret))⟩
def qBX:List VOper:=[
 ⟨some 4,.move (.c (.d (.bool false))),none,[]⟩]
def qBW:List VOper:=[
 ⟨some 5,.move (.t 1),none,[]⟩,
 ⟨some 6,.move (.t 0),none,[]⟩,
 ⟨some 7,.len false (.t 6),none,[]⟩,
 ⟨some 8,.bin .sub (.t 7) (.c (.d (.int .i64 1))),none,[]⟩,
 ⟨some 9,.call true (.c (.fn 31 [])) [.t 5,.c (.d (.int .i64 0)),.t 8],none,[]⟩,
 ⟨some 10,.move (.t 9),none,[]⟩,
 ⟨some 11,.move (.t 0),some (10,true),[]⟩,
 ⟨some 12,.move (.t 1),some (10,true),[]⟩,
 ⟨some 13,.indexAddr 3 none (.t 11) (.t 12),some (10,true),[]⟩,
 ⟨some 14,.fieldAddr 2 (.t 13),some (10,true),[]⟩,
 ⟨some 15,.load false 1 (.t 14),some (10,true),[]⟩,
 ⟨some 16,.pick (.t 10) (.t 15) (.c (.d (.bool false))),none,[]⟩,
 ⟨some 4,.move (.t 16),none,[]⟩]
def v33:VFn:=⟨2,[.tmp 4],(.seq (.region false 0 [0,1] qBX) (.seq (.region false 0 [4] qBW) .ret))⟩
def qBV:List VOper:=[
 ⟨some 4,.move (.c (.d (.bool false))),none,[]⟩]
def qBU:List VOper:=[
 ⟨some 5,.move (.t 0),none,[]⟩,
 ⟨some 6,.move (.t 1),none,[]⟩,
 ⟨some 7,.call true (.c (.fn 29 [])) [.t 5,.t 6],none,[]⟩,
 ⟨some 8,.move (.t 7),none,[]⟩,
 ⟨some 9,.move (.t 0),some (8,true),[]⟩,
 ⟨some 10,.move (.t 1),some (8,true),[]⟩,
 ⟨some 11,.indexAddr 3 none (.t 9) (.t 10),some (8,true),[]⟩,
 ⟨some 12,.fieldAddr 2 (.t 11),some (8,true),[]⟩,
 ⟨some 13,.load false 1 (.t 12),some (8,true),[]⟩,
 ⟨some 14,.pick (.t 8) (.t 13) (.c (.d (.bool false))),none,[]⟩,
 ⟨some 4,.move (.t 14),none,[]⟩]
def v34:VFn:=⟨2,[.tmp 4],(.seq (.region false 0 [0,1] qBV) (.seq (.region false 0 [4] qBU) .ret))⟩
def qEG:List VOper:=[
 ⟨some 2,.move (.c (.d (.bool false))),none,[]⟩]
def qEF:List VOper:=[
 ⟨some 3,.move (.c (.d (.int .i64 0))),none,[]⟩]
def qBT:List VOper:=[
 ⟨some 4,.move (.t 3),none,[]⟩,
 ⟨some 5,.move (.t 0),none,[]⟩,
 ⟨some 6,.len true (.t 5),none,[]⟩,
 ⟨some 7,.bin .lss (.t 4) (.t 6),none,[]⟩]
def qED:List VOper:=[
 ⟨some 10,.move (.t 0),none,[]⟩,
 ⟨some 11,.move (.t 3),none,[]⟩,
 ⟨some 12,.index (.t 10) (.t 11),none,[]⟩,
 ⟨some 13,.bin .geq (.t 12) (.c (.d (.int .u8 97))),none,[]⟩,
 ⟨some 14,.move (.t 13),none,[]⟩,
 ⟨some 15,.move (.t 0),some (14,true),[]⟩,
 ⟨some 16,.move (.t 3),some (14,true),[]⟩,
 ⟨some 17,.index (.t 15) (.t 16),some (14,true),[]⟩,
 ⟨some 18,.bin .leq (.t 17) (.c (.d (.int .u8 122))),some (14,true),[]⟩,
 ⟨some 19,.pick (.t 14) (.t 18) (.c (.d (.bool false))),none,[]⟩,
 ⟨some 20,.move (.t 19),none,[]⟩,
 ⟨some 21,.move (.t 3),some (20,false),[]⟩,
 ⟨some 22,.bin .gtr (.t 21) (.c (.d (.int .i64 0))),some (20,false),[]⟩,
 ⟨some 23,.move (.t 22),some (20,false),[]⟩,
 ⟨some 24,.move (.t 0),some (23,true),[]⟩,
 ⟨some 25,.move (.t 3),some (23,true),[]⟩,
 ⟨some 26,.index (.t 24) (.t 25),some (23,true),[]⟩,
 ⟨some 27,.bin .geq (.t 26) (.c (.d (.int .u8 48))),some (23,true),[]⟩,
 ⟨some 28,.pick (.t 23) (.t 27) (.c (.d (.bool false))),some (20,false),[]⟩,
 ⟨some 29,.move (.t 28),some (20,false),[]⟩,
 ⟨some 30,.move (.t 0),some (29,true),[]⟩,
 ⟨some 31,.move (.t 3),some (29,true),[]⟩,
 ⟨some 32,.index (.t 30) (.t 31),some (29,true),[]⟩,
 ⟨some 33,.bin .leq (.t 32) (.c (.d (.int .u8 57))),some (29,true),[]⟩,
 ⟨some 34,.pick (.t 29) (.t 33) (.c (.d (.bool false))),some (20,false),[]⟩,
 ⟨some 35,.pick (.t 20) (.c (.d (.bool true))) (.t 34),none,[]⟩,
 ⟨some 36,.not (.t 35),none,[]⟩]
def qEC:List VOper:=[
 ⟨some 2,.move (.c (.d (.bool false))),none,[]⟩]
def qEE:List VOper:=[
 ⟨some 8,.move (.t 3),none,[]⟩,
 ⟨some 9,.bin .add (.t 8) (.c (.d (.int .i64 1))),none,[]⟩,
 ⟨some 3,.move (.t 9),none,[]⟩]
def qwM:VCode:=(.seq (.seq (.region false 0 [0,3,7] qBT) (.cond (.t 7) .skip (.exit 0))) (.seq (.block 1 (.seq (.region false 0 [0,3,36] qED) (.cond (.t 36) (.seq (.region false 0 [2] qEC) .ret) .skip))) (.region false 0 [0,3] qEE)))
def qEB:List VOper:=[
 ⟨some 37,.move (.t 0),none,[]⟩,
 ⟨some 38,.len true (.t 37),none,[]⟩,
 ⟨some 39,.call true (.c (.fn 31 [])) [.t 38,.c (.d (.int .i64 1)),.c (.d (.int .i64 8))],none,[]⟩,
 ⟨some 2,.move (.t 39),none,[]⟩]
def v59:VFn:=⟨1,[.tmp 2],(.seq (.region false 0 [0] qEG) (.seq (.seq (.region false 0 [0,3] qEF) (.block 0 (.loop [0,3] qwM))) (.seq (.region false 0 [2] qEB) .ret)))⟩
def qEA:List VOper:=[
 ⟨some 2,.move (.c (.d (.bool false))),none,[]⟩]
def qEz:List VOper:=[
 ⟨some 4,.move (.t 0),none,[]⟩,
 ⟨some 5,.len true (.t 4),none,[]⟩,
 ⟨some 6,.move (.c (.d (.int .i64 0))),none,[]⟩]
def qBS:List VOper:=[
 ⟨some 7,.bin .lss (.t 6) (.t 5),none,[]⟩]
def qEy:List VOper:=[
 ⟨some 8,.move (.t 6),none,[]⟩,
 ⟨some 3,.move (.t 8),none,[]⟩]
def qEx:List VOper:=[
 ⟨some 9,.move (.t 0),none,[]⟩,
 ⟨some 10,.move (.t 3),none,[]⟩,
 ⟨some 11,.index (.t 9) (.t 10),none,[]⟩,
 ⟨some 12,.call true (.c (.fn 61 [])) [.t 11],none,[]⟩,
 ⟨some 13,.not (.t 12),none,[]⟩,
 ⟨some 14,.move (.t 13),none,[]⟩,
 ⟨some 15,.move (.t 0),some (14,true),[]⟩,
 ⟨some 16,.move (.t 3),some (14,true),[]⟩,
 ⟨some 17,.index (.t 15) (.t 16),some (14,true),[]⟩,
 ⟨some 18,.call true (.c (.fn 62 [])) [.t 17],some (14,true),[]⟩,
 ⟨some 19,.not (.t 18),some (14,true),[]⟩,
 ⟨some 20,.pick (.t 14) (.t 19) (.c (.d (.bool false))),none,[]⟩]
def qEw:List VOper:=[
 ⟨some 2,.move (.c (.d (.bool false))),none,[]⟩]
def qEv:List VOper:=[
 ⟨some 21,.bin .add (.t 6) (.c (.d (.int .i64 1))),none,[]⟩,
 ⟨some 6,.move (.t 21),none,[]⟩]
def qwL:VCode:=(.seq (.region false 0 [0,5,6,7] qBS) (.seq (.cond (.t 7) .skip (.exit 0)) (.seq (.block 1 (.seq (.region false 0 [0,3,5,6] qEy) (.seq (.region false 0 [0,5,6,20] qEx) (.cond (.t 20) (.seq (.region false 0 [2] qEw) .ret) .skip)))) (.region false 0 [0,5,6] qEv))))
def qEu:List VOper:=[
 ⟨some 22,.move (.t 0),none,[]⟩,
 ⟨some 23,.len true (.t 22),none,[]⟩,
 ⟨some 24,.call true (.c (.fn 30 [])) [.t 23,.c (.d (.int .i64 1)),.c (.d (.int .i64 8))],none,[]⟩,
 ⟨some 25,.move (.t 24),none,[]⟩,
 ⟨some 26,.move (.t 0),some (25,true),[]⟩,
 ⟨some 27,.index (.t 26) (.c (.d (.int .i64 0))),some (25,true),[]⟩,
 ⟨some 28,.call true (.c (.fn 61 [])) [.t 27],some (25,true),[]⟩,
 ⟨some 29,.pick (.t 25) (.t 28) (.c (.d (.bool false))),none,[]⟩,
 ⟨some 2,.move (.t 29),none,[]⟩]
def v60:VFn:=⟨1,[.tmp 2],(.seq (.region false 0 [0] qEA) (.seq (.seq (.region false 0 [0,5,6] qEz) (.block 0 (.loop [0,5,6] qwL))) (.seq (.region false 0 [2] qEu) .ret)))⟩
def qEt:List VOper:=[
 ⟨some 2,.move (.c (.d (.bool false))),none,[]⟩]
def qEs:List VOper:=[
 ⟨some 3,.move (.t 0),none,[]⟩,
 ⟨some 4,.bin .geq (.t 3) (.c (.d (.int .u8 97))),none,[]⟩,
 ⟨some 5,.move (.t 4),none,[]⟩,
 ⟨some 6,.move (.t 0),some (5,true),[]⟩,
 ⟨some 7,.bin .leq (.t 6) (.c (.d (.int .u8 122))),some (5,true),[]⟩,
 ⟨some 8,.pick (.t 5) (.t 7) (.c (.d (.bool false))),none,[]⟩,
 ⟨some 2,.move (.t 8),none,[]⟩]
def v61:VFn:=⟨1,[.tmp 2],(.seq (.region false 0 [0] qEt) (.seq (.region false 0 [2] qEs) .ret))⟩
def qEr:List VOper:=[
 ⟨some 2,.move (.c (.d (.bool false))),none,[]⟩]
def qEq:List VOper:=[
 ⟨some 3,.move (.t 0),none,[]⟩,
 ⟨some 4,.bin .geq (.t 3) (.c (.d (.int .u8 48))),none,[]⟩,
 ⟨some 5,.move (.t 4),none,[]⟩,
 ⟨some 6,.move (.t 0),some (5,true),[]⟩,
 ⟨some 7,.bin .leq (.t 6) (.c (.d (.int .u8 57))),some (5,true),[]⟩,
 ⟨some 8,.pick (.t 5) (.t 7) (.c (.d (.bool false))),none,[]⟩,
 ⟨some 2,.move (.t 8),none,[]⟩]
def v62:VFn:=⟨1,[.tmp 2],(.seq (.region false 0 [0] qEr) (.seq (.region false 0 [2] qEq) .ret))⟩
def qyl:List VOper:=[
 ⟨some 3,.box 0 (.t 1),none,[]⟩,
 ⟨some 4,.move (.c (.d (.bool false))),none,[]⟩]
def qyk:List VOper:=[
 ⟨some 5,.move (.t 0),none,[]⟩,
 ⟨some 6,.call true (.c (.fn 77 [])) [.t 5],none,[]⟩,
 ⟨some 7,.move (.t 6),none,[]⟩,
 ⟨some 8,.load true 3 (.t 3),some (7,true),[]⟩,
 ⟨some 9,.call true (.c (.fn 23 [])) [.t 8],some (7,true),[]⟩,
 ⟨some 10,.bin .leq (.t 9) (.c (.d (.int .i64 60))),some (7,true),[]⟩,
 ⟨some 11,.pick (.t 7) (.t 10) (.c (.d (.bool false))),none,[]⟩,
 ⟨some 12,.move (.t 11),none,[]⟩,
 ⟨some 13,.move (.t 0),some (12,true),[]⟩,
 ⟨some 14,.load true 3 (.t 3),some (12,true),[]⟩,
 ⟨some 15,.call true (.c (.fn 78 [])) [.t 13,.t 14],some (12,true),[]⟩,
 ⟨some 16,.pick (.t 12) (.t 15) (.c (.d (.bool false))),none,[]⟩,
 ⟨some 4,.move (.t 16),none,[]⟩]
def v70:VFn:=⟨2,[.tmp 4],(.seq (.region false 1 [0,3] qyl) (.seq (.region false 0 [4] qyk) .ret))⟩
def qEn:List VOper:=[
 ⟨some 1,.box 0 (.t 0),none,[]⟩,
 ⟨some 2,.move (.c (.d (.bool false))),none,[]⟩]
def qEm:List VOper:=[
 ⟨some 3,.fieldAddr 0 (.t 1),none,[]⟩,
 ⟨some 4,.load false 1 (.t 3),none,[]⟩,
 ⟨some 5,.bin .eql (.t 4) (.c (.d (.int .i64 (-1)))),none,[]⟩,
 ⟨some 2,.move (.t 5),none,[]⟩]
def v75:VFn:=⟨1,[.tmp 2],(.seq (.region false 1 [1] qEn) (.seq (.region false 0 [2] qEm) .ret))⟩
def qg8:List VOper:=[
 ⟨some 2,.move (.c (.d (.bool false))),none,[]⟩]
def qg7:List VOper:=[
 ⟨some 5,.move (.t 0),none,[]⟩,
 ⟨some 6,.len false (.t 5),none,[]⟩,
 ⟨some 7,.move (.c (.d (.int .i64 0))),none,[]⟩]
def qg6:List VOper:=[
 ⟨some 8,.bin .lss (.t 7) (.t 6),none,[]⟩]
def qg5:List VOper:=[
 ⟨some 9,.move (.t 7),none,[]⟩,
 ⟨some 10,.indexAddr 3 none (.t 5) (.t 7),none,[]⟩,
 ⟨some 11,.load true 3 (.t 10),none,[]⟩,
 ⟨some 4,.alloc 0 [.str ⟨#[]⟩,.int .i64 0,.bool false],none,[]⟩,
 ⟨some 3,.move (.t 9),none,[]⟩,
 ⟨none,.store false 3 (.t 4) (.t 11),none,[]⟩]
def qg4:List VOper:=[
 ⟨some 12,.fieldAddr 0 (.t 4),none,[]⟩,
 ⟨some 13,.load false 1 (.t 12),none,[]⟩,
 ⟨some 14,.call true (.c (.fn 60 [])) [.t 13],none,[]⟩,
 ⟨some 15,.not (.t 14),none,[]⟩,
 ⟨some 16,.move (.t 15),none,[]⟩,
 ⟨some 17,.move (.t 0),some (16,false),[]⟩,
 ⟨some 18,.fieldAddr 0 (.t 4),some (16,false),[]⟩,
 ⟨some 19,.load false 1 (.t 18),some (16,false),[]⟩,
 ⟨some 20,.call true (.c (.fn 14 [])) [.t 17,.t 19],some (16,false),[]⟩,
 ⟨some 21,.move (.t 3),some (16,false),[]⟩,
 ⟨some 22,.bin .neq (.t 20) (.t 21),some (16,false),[]⟩,
 ⟨some 23,.pick (.t 16) (.c (.d (.bool true))) (.t 22),none,[]⟩,
 ⟨some 24,.move (.t 23),none,[]⟩,
 ⟨some 25,.fieldAddr 1 (.t 4),some (24,false),[]⟩,
 ⟨some 26,.load false 1 (.t 25),some (24,false),[]⟩,
 ⟨some 27,.call true (.c (.fn 30 [])) [.t 26,.c (.d (.int .i64 0)),.c (.d (.int .i64 3))],some (24,false),[]⟩,
 ⟨some 28,.not (.t 27),some (24,false),[]⟩,
 ⟨some 29,.pick (.t 24) (.c (.d (.bool true))) (.t 28),none,[]⟩,
 ⟨some 30,.move (.t 29),none,[]⟩,
 ⟨some 31,.fieldAddr 2 (.t 4),some (30,false),[]⟩,
 ⟨some 32,.load false 1 (.t 31),some (30,false),[]⟩,
 ⟨some 33,.move (.t 32),some (30,false),[]⟩,
 ⟨some 34,.fieldAddr 1 (.t 4),some (33,true),[]⟩,
 ⟨some 35,.load false 1 (.t 34),some (33,true),[]⟩,
 ⟨some 36,.bin .neq (.t 35) (.c (.d (.int .i64 2))),some (33,true),[]⟩,
 ⟨some 37,.pick (.t 33) (.t 36) (.c (.d (.bool false))),some (30,false),[]⟩,
 ⟨some 38,.pick (.t 30) (.c (.d (.bool true))) (.t 37),none,[]⟩]
def qg3:List VOper:=[
 ⟨some 2,.move (.c (.d (.bool false))),none,[]⟩]
def qg2:List VOper:=[
 ⟨some 39,.bin .add (.t 7) (.c (.d (.int .i64 1))),none,[]⟩,
 ⟨some 7,.move (.t 39),none,[]⟩]
def qki:VCode:=(.seq (.region false 0 [0,5,6,7,8] qg6) (.seq (.cond (.t 8) .skip (.exit 0)) (.seq (.block 1 (.seq (.region false 1 [0,3,4,5,6,7] qg5) (.seq (.region false 0 [0,5,6,7,38] qg4) (.cond (.t 38) (.seq (.region false 0 [2] qg3) .ret) .skip)))) (.region false 0 [0,5,6,7] qg2))))
def qg1:List VOper:=[
 ⟨some 40,.move (.t 0),none,[]⟩,
 ⟨some 41,.len false (.t 40),none,[]⟩,
 ⟨some 42,.call true (.c (.fn 30 [])) [.t 41,.c (.d (.int .i64 1)),.c (.d (.int .i64 8))],none,[]⟩,
 ⟨some 43,.move (.t 42),none,[]⟩,
 ⟨some 44,.move (.t 0),some (43,true),[]⟩,
 ⟨some 45,.indexAddr 3 none (.t 44) (.c (.d (.int .i64 0))),some (43,true),[]⟩,
 ⟨some 46,.fieldAddr 0 (.t 45),some (43,true),[]⟩,
 ⟨some 47,.load false 1 (.t 46),some (43,true),[]⟩,
 ⟨some 48,.bin .eql (.t 47) (.c (.d (.str ⟨#[116,116]⟩))),some (43,true),[]⟩,
 ⟨some 49,.pick (.t 43) (.t 48) (.c (.d (.bool false))),none,[]⟩,
 ⟨some 50,.move (.t 49),none,[]⟩,
 ⟨some 51,.move (.t 0),some (50,true),[]⟩,
 ⟨some 52,.indexAddr 3 none (.t 51) (.c (.d (.int .i64 0))),some (50,true),[]⟩,
 ⟨some 53,.fieldAddr 1 (.t 52),some (50,true),[]⟩,
 ⟨some 54,.load false 1 (.t 53),some (50,true),[]⟩,
 ⟨some 55,.bin .eql (.t 54) (.c (.d (.int .i64 0))),some (50,true),[]⟩,
 ⟨some 56,.pick (.t 50) (.t 55) (.c (.d (.bool false))),none,[]⟩,
 ⟨some 2,.move (.t 56),none,[]⟩]
def v77:VFn:=⟨1,[.tmp 2],(.seq (.region false 0 [0] qg8) (.seq (.seq (.region false 0 [0,5,6,7] qg7) (.block 0 (.loop [0,5,6,7] qki))) (.seq (.region false 0 [2] qg1) .ret)))⟩
def qrd:List VOper:=[
 ⟨some 3,.box 0 (.t 1),none,[]⟩,
 ⟨some 4,.move (.c (.d (.bool false))),none,[]⟩]
def qrc:List VOper:=[
 ⟨some 7,.load true 3 (.t 3),none,[]⟩,
 ⟨some 8,.call true (.c (.fn 75 [])) [.t 7],none,[]⟩]
def qrb:List VOper:=[
 ⟨some 9,.fieldAddr 1 (.t 3),none,[]⟩,
 ⟨some 10,.load false 1 (.t 9),none,[]⟩,
 ⟨some 11,.call true (.c (.fn 30 [])) [.t 10,.c (.d (.int .i64 0)),.c (.d (.int .i64 99))],none,[]⟩,
 ⟨some 12,.move (.t 11),none,[]⟩,
 ⟨some 13,.fieldAddr 2 (.t 3),some (12,true),[]⟩,
 ⟨some 14,.load false 1 (.t 13),some (12,true),[]⟩,
 ⟨some 15,.len false (.t 14),some (12,true),[]⟩,
 ⟨some 16,.bin .eql (.t 15) (.c (.d (.int .i64 0))),some (12,true),[]⟩,
 ⟨some 17,.pick (.t 12) (.t 16) (.c (.d (.bool false))),none,[]⟩,
 ⟨some 4,.move (.t 17),none,[]⟩]
def qyj:List VOper:=[
 ⟨some 18,.move (.t 0),none,[]⟩,
 ⟨some 19,.fieldAddr 0 (.t 3),none,[]⟩,
 ⟨some 20,.load false 1 (.t 19),none,[1]⟩,
 ⟨some 21,.call true (.c (.fn 29 [])) [.t 18,.t 20],none,[0,2]⟩,
 ⟨some 22,.not (.t 21),none,[3]⟩,
 ⟨some 23,.move (.t 22),none,[3,4]⟩,
 ⟨some 24,.fieldAddr 1 (.t 3),some (23,false),[5]⟩,
 ⟨some 25,.load false 1 (.t 24),some (23,false),[5,6]⟩,
 ⟨some 26,.bin .neq (.t 25) (.c (.d (.int .i64 0))),some (23,false),[5,7]⟩,
 ⟨some 27,.pick (.t 23) (.c (.d (.bool true))) (.t 26),none,[5,8]⟩,
 ⟨some 28,.move (.t 27),none,[5,9]⟩,
 ⟨some 29,.move (.t 0),some (28,false),[10]⟩,
 ⟨some 30,.fieldAddr 0 (.t 3),some (28,false),[10]⟩,
 ⟨some 31,.load false 1 (.t 30),some (28,false),[10,12]⟩,
 ⟨some 32,.indexAddr 3 none (.t 29) (.t 31),some (28,false),[10,11,13]⟩,
 ⟨some 33,.fieldAddr 2 (.t 32),some (28,false),[10,14]⟩,
 ⟨some 34,.load false 1 (.t 33),some (28,false),[10,15]⟩,
 ⟨some 35,.not (.t 34),some (28,false),[10,16]⟩,
 ⟨some 36,.move (.t 35),some (28,false),[10,17]⟩,
 ⟨some 37,.fieldAddr 2 (.t 3),some (36,true),[18]⟩,
 ⟨some 38,.load false 1 (.t 37),some (36,true),[18,19]⟩,
 ⟨some 39,.len false (.t 38),some (36,true),[18,20]⟩,
 ⟨some 40,.move (.t 0),some (36,true),[18]⟩,
 ⟨some 41,.fieldAddr 0 (.t 3),some (36,true),[18]⟩,
 ⟨some 42,.load false 1 (.t 41),some (36,true),[18,23]⟩,
 ⟨some 43,.indexAddr 3 none (.t 40) (.t 42),some (36,true),[18,22,24]⟩,
 ⟨some 44,.fieldAddr 1 (.t 43),some (36,true),[18,25]⟩,
 ⟨some 45,.load false 1 (.t 44),some (36,true),[18,26]⟩,
 ⟨some 46,.bin .neq (.t 39) (.t 45),some (36,true),[18,21,27]⟩,
 ⟨some 47,.pick (.t 36) (.t 46) (.c (.d (.bool false))),some (28,false),[10,18,28]⟩,
 ⟨some 48,.pick (.t 28) (.c (.d (.bool true))) (.t 47),none,[10,29]⟩,
 ⟨some 49,.move (.t 48),none,[18,30]⟩,
 ⟨some 50,.move (.t 0),some (49,false),[31]⟩,
 ⟨some 51,.fieldAddr 0 (.t 3),some (49,false),[31]⟩,
 ⟨some 52,.load false 1 (.t 51),some (49,false),[31,33]⟩,
 ⟨some 53,.indexAddr 3 none (.t 50) (.t 52),some (49,false),[31,32,34]⟩,
 ⟨some 54,.fieldAddr 2 (.t 53),some (49,false),[31,35]⟩,
 ⟨some 55,.load false 1 (.t 54),some (49,false),[31,36]⟩,
 ⟨some 56,.move (.t 55),some (49,false),[31,37]⟩,
 ⟨some 57,.fieldAddr 2 (.t 3),some (56,true),[38]⟩,
 ⟨some 58,.load false 1 (.t 57),some (56,true),[38,39]⟩,
 ⟨some 59,.len false (.t 58),some (56,true),[38,40]⟩,
 ⟨some 60,.bin .lss (.t 59) (.c (.d (.int .i64 2))),some (56,true),[38,41]⟩,
 ⟨some 61,.pick (.t 56) (.t 60) (.c (.d (.bool false))),some (49,false),[31,38,42]⟩,
 ⟨some 62,.pick (.t 49) (.c (.d (.bool true))) (.t 61),none,[31,43]⟩]
def qBM:List VOper:=[
 ⟨some 4,.move (.c (.d (.bool false))),none,[]⟩]
def qEl:List VOper:=[
 ⟨some 63,.fieldAddr 2 (.t 3),none,[]⟩,
 ⟨some 64,.load false 1 (.t 63),none,[]⟩,
 ⟨some 65,.len false (.t 64),none,[]⟩,
 ⟨some 66,.move (.c (.d (.int .i64 0))),none,[]⟩]
def qyi:List VOper:=[
 ⟨some 67,.bin .lss (.t 66) (.t 65),none,[]⟩]
def qBL:List VOper:=[
 ⟨some 68,.move (.t 66),none,[]⟩,
 ⟨some 69,.indexAddr 3 none (.t 64) (.t 66),none,[]⟩,
 ⟨some 70,.load true 3 (.t 69),none,[]⟩,
 ⟨some 6,.alloc 0 [.int .i64 0,.int .i64 0,.sl .nil []],none,[]⟩,
 ⟨some 5,.move (.t 68),none,[]⟩,
 ⟨none,.store false 3 (.t 6) (.t 70),none,[]⟩]
def qyh:List VOper:=[
 ⟨some 71,.move (.t 0),none,[]⟩,
 ⟨some 72,.load true 3 (.t 6),none,[]⟩,
 ⟨some 73,.call true (.c (.fn 78 [])) [.t 71,.t 72],none,[0,1]⟩,
 ⟨some 74,.not (.t 73),none,[2]⟩,
 ⟨some 75,.move (.t 74),none,[2,3]⟩,
 ⟨some 76,.move (.t 0),some (75,false),[4]⟩,
 ⟨some 77,.fieldAddr 0 (.t 3),some (75,false),[4]⟩,
 ⟨some 78,.load false 1 (.t 77),some (75,false),[4,6]⟩,
 ⟨some 79,.indexAddr 3 none (.t 76) (.t 78),some (75,false),[4,5,7]⟩,
 ⟨some 80,.fieldAddr 2 (.t 79),some (75,false),[4,8]⟩,
 ⟨some 81,.load false 1 (.t 80),some (75,false),[4,9]⟩,
 ⟨some 82,.move (.t 81),some (75,false),[4,10]⟩,
 ⟨some 83,.fieldAddr 0 (.t 6),some (82,true),[11]⟩,
 ⟨some 84,.load false 1 (.t 83),some (82,true),[11,12]⟩,
 ⟨some 85,.fieldAddr 0 (.t 3),some (82,true),[11]⟩,
 ⟨some 86,.load false 1 (.t 85),some (82,true),[11,14]⟩,
 ⟨some 87,.bin .eql (.t 84) (.t 86),some (82,true),[11,13,15]⟩,
 ⟨some 88,.move (.t 87),some (82,true),[11,16]⟩,
 ⟨some 89,.move (.t 5),some (88,false),[17]⟩,
 ⟨some 90,.bin .gtr (.t 89) (.c (.d (.int .i64 0))),some (88,false),[17,18]⟩,
 ⟨some 91,.move (.t 90),some (88,false),[17,19]⟩,
 ⟨some 92,.load true 3 (.t 6),some (91,true),[20]⟩,
 ⟨some 93,.fieldAddr 2 (.t 3),some (91,true),[20]⟩,
 ⟨some 94,.load false 1 (.t 93),some (91,true),[20,22]⟩,
 ⟨some 95,.move (.t 5),some (91,true),[20]⟩,
 ⟨some 96,.bin .sub (.t 95) (.c (.d (.int .i64 1))),some (91,true),[20,24]⟩,
 ⟨some 97,.indexAddr 3 none (.t 94) (.t 96),some (91,true),[20,23,25]⟩,
 ⟨some 98,.load true 3 (.t 97),some (91,true),[20,26]⟩,
 ⟨some 99,.call true (.c (.fn 79 [])) [.t 92,.t 98],some (91,true),[20,21,27]⟩,
 ⟨some 100,.pick (.t 91) (.t 99) (.c (.d (.bool false))),some (88,false),[17,20,28]⟩,
 ⟨some 101,.pick (.t 88) (.c (.d (.bool true))) (.t 100),some (82,true),[11,17,29]⟩,
 ⟨some 102,.pick (.t 82) (.t 101) (.c (.d (.bool false))),some (75,false),[4,11,30]⟩,
 ⟨some 103,.pick (.t 75) (.c (.d (.bool true))) (.t 102),none,[4,31]⟩]
def qBK:List VOper:=[
 ⟨some 4,.move (.c (.d (.bool false))),none,[]⟩]
def qtZ:List VOper:=[
 ⟨some 104,.bin .add (.t 66) (.c (.d (.int .i64 1))),none,[]⟩,
 ⟨some 66,.move (.t 104),none,[]⟩]
def qwJ:VCode:=(.seq (.region false 0 [0,3,64,65,66,67] qyi) (.seq (.cond (.t 67) .skip (.exit 0)) (.seq (.block 1 (.seq (.region false 1 [0,3,5,6,64,65,66] qBL) (.seq (.region true 0 [0,3,64,65,66,103] qyh) (.cond (.t 103) (.seq (.region false 0 [4] qBK) .ret) .skip)))) (.region false 0 [0,3,64,65,66] qtZ))))
def qzB:List VOper:=[
 ⟨some 4,.move (.c (.d (.bool true))),none,[]⟩]
def v78:VFn:=⟨2,[.tmp 4],(.seq (.region false 1 [0,3] qrd) (.seq (.seq (.region false 0 [0,3,8] qrc) (.cond (.t 8) (.seq (.region false 0 [4] qrb) .ret) .skip)) (.seq (.seq (.region true 0 [0,3,62] qyj) (.cond (.t 62) (.seq (.region false 0 [4] qBM) .ret) .skip)) (.seq (.seq (.region false 0 [0,3,64,65,66] qEl) (.block 0 (.loop [0,3,64,65,66] qwJ))) (.seq (.region false 0 [4] qzB) .ret)))))⟩
def qEk:List VOper:=[
 ⟨some 2,.box 0 (.t 0),none,[]⟩,
 ⟨some 3,.box 1 (.t 1),none,[]⟩,
 ⟨some 4,.move (.c (.d (.bool false))),none,[]⟩]
def qEj:List VOper:=[
 ⟨some 5,.load true 3 (.t 2),none,[]⟩,
 ⟨some 6,.load true 3 (.t 3),none,[]⟩,
 ⟨some 7,.call true (.c (.fn 6 [])) [.t 5,.t 6],none,[]⟩,
 ⟨some 8,.bin .lss (.t 7) (.c (.d (.int .i64 0))),none,[]⟩,
 ⟨some 4,.move (.t 8),none,[]⟩]
def v79:VFn:=⟨2,[.tmp 4],(.seq (.region false 2 [2,3] qEk) (.seq (.region false 0 [4] qEj) .ret))⟩
def qyg:List VOper:=[
 ⟨some 3,.box 0 (.t 1),none,[]⟩,
 ⟨some 4,.move (.c (.d (.bool false))),none,[]⟩]
def qyf:List VOper:=[
 ⟨some 5,.move (.t 0),none,[]⟩,
 ⟨some 6,.call true (.c (.fn 82 [])) [.t 5],none,[]⟩,
 ⟨some 7,.move (.t 6),none,[]⟩,
 ⟨some 8,.load true 3 (.t 3),some (7,true),[]⟩,
 ⟨some 9,.call true (.c (.fn 22 [])) [.t 8],some (7,true),[]⟩,
 ⟨some 10,.bin .leq (.t 9) (.c (.d (.int .i64 60))),some (7,true),[]⟩,
 ⟨some 11,.pick (.t 7) (.t 10) (.c (.d (.bool false))),none,[]⟩,
 ⟨some 12,.move (.t 11),none,[]⟩,
 ⟨some 13,.move (.t 0),some (12,true),[]⟩,
 ⟨some 14,.load true 3 (.t 3),some (12,true),[]⟩,
 ⟨some 15,.call true (.c (.fn 83 [])) [.t 13,.t 14],some (12,true),[]⟩,
 ⟨some 16,.pick (.t 12) (.t 15) (.c (.d (.bool false))),none,[]⟩,
 ⟨some 4,.move (.t 16),none,[]⟩]
def v80:VFn:=⟨2,[.tmp 4],(.seq (.region false 1 [0,3] qyg) (.seq (.region false 0 [4] qyf) .ret))⟩
def qiZ:List VOper:=[
 ⟨some 2,.move (.c (.d (.bool false))),none,[]⟩]
def qiY:List VOper:=[
 ⟨some 3,.move (.c (.d (.int .i64 0))),none,[]⟩]
def qiX:List VOper:=[
 ⟨some 4,.move (.t 3),none,[]⟩,
 ⟨some 5,.move (.t 0),none,[]⟩,
 ⟨some 6,.len false (.t 5),none,[]⟩,
 ⟨some 7,.bin .lss (.t 4) (.t 6),none,[]⟩]
def qiV:List VOper:=[
 ⟨some 10,.move (.t 0),none,[]⟩,
 ⟨some 11,.move (.t 3),none,[]⟩,
 ⟨some 12,.indexAddr 3 none (.t 10) (.t 11),none,[]⟩,
 ⟨some 13,.fieldAddr 0 (.t 12),none,[]⟩,
 ⟨some 14,.load false 1 (.t 13),none,[]⟩,
 ⟨some 15,.call true (.c (.fn 59 [])) [.t 14],none,[]⟩,
 ⟨some 16,.not (.t 15),none,[]⟩,
 ⟨some 17,.move (.t 16),none,[]⟩,
 ⟨some 18,.move (.t 0),some (17,false),[]⟩,
 ⟨some 19,.move (.t 0),some (17,false),[]⟩,
 ⟨some 20,.move (.t 3),some (17,false),[]⟩,
 ⟨some 21,.indexAddr 3 none (.t 19) (.t 20),some (17,false),[]⟩,
 ⟨some 22,.fieldAddr 0 (.t 21),some (17,false),[]⟩,
 ⟨some 23,.load false 1 (.t 22),some (17,false),[]⟩,
 ⟨some 24,.call true (.c (.fn 13 [])) [.t 18,.t 23],some (17,false),[]⟩,
 ⟨some 25,.move (.t 3),some (17,false),[]⟩,
 ⟨some 26,.bin .neq (.t 24) (.t 25),some (17,false),[]⟩,
 ⟨some 27,.pick (.t 17) (.c (.d (.bool true))) (.t 26),none,[]⟩,
 ⟨some 28,.move (.t 27),none,[]⟩,
 ⟨some 29,.move (.t 0),some (28,false),[]⟩,
 ⟨some 30,.move (.t 3),some (28,false),[]⟩,
 ⟨some 31,.indexAddr 3 none (.t 29) (.t 30),some (28,false),[]⟩,
 ⟨some 32,.fieldAddr 1 (.t 31),some (28,false),[]⟩,
 ⟨some 33,.load false 1 (.t 32),some (28,false),[]⟩,
 ⟨some 34,.call true (.c (.fn 31 [])) [.t 33,.c (.d (.int .i64 0)),.c (.d (.int .i64 3))],some (28,false),[]⟩,
 ⟨some 35,.not (.t 34),some (28,false),[]⟩,
 ⟨some 36,.pick (.t 28) (.c (.d (.bool true))) (.t 35),none,[]⟩,
 ⟨some 37,.move (.t 36),none,[]⟩,
 ⟨some 38,.move (.t 0),some (37,false),[]⟩,
 ⟨some 39,.move (.t 3),some (37,false),[]⟩,
 ⟨some 40,.indexAddr 3 none (.t 38) (.t 39),some (37,false),[]⟩,
 ⟨some 41,.fieldAddr 2 (.t 40),some (37,false),[]⟩,
 ⟨some 42,.load false 1 (.t 41),some (37,false),[]⟩,
 ⟨some 43,.move (.t 42),some (37,false),[]⟩,
 ⟨some 44,.move (.t 0),some (43,true),[]⟩,
 ⟨some 45,.move (.t 3),some (43,true),[]⟩,
 ⟨some 46,.indexAddr 3 none (.t 44) (.t 45),some (43,true),[]⟩,
 ⟨some 47,.fieldAddr 1 (.t 46),some (43,true),[]⟩,
 ⟨some 48,.load false 1 (.t 47),some (43,true),[]⟩,
 ⟨some 49,.bin .neq (.t 48) (.c (.d (.int .i64 2))),some (43,true),[]⟩,
 ⟨some 50,.pick (.t 43) (.t 49) (.c (.d (.bool false))),some (37,false),[]⟩,
 ⟨some 51,.pick (.t 37) (.c (.d (.bool true))) (.t 50),none,[]⟩]
def qiU:List VOper:=[
 ⟨some 2,.move (.c (.d (.bool false))),none,[]⟩]
def qiW:List VOper:=[
 ⟨some 8,.move (.t 3),none,[]⟩,
 ⟨some 9,.bin .add (.t 8) (.c (.d (.int .i64 1))),none,[]⟩,
 ⟨some 3,.move (.t 9),none,[]⟩]
def qmb:VCode:=(.seq (.seq (.region false 0 [0,3,7] qiX) (.cond (.t 7) .skip (.exit 0))) (.seq (.block 1 (.seq (.region false 0 [0,3,51] qiV) (.cond (.t 51) (.seq (.region false 0 [2] qiU) .ret) .skip))) (.region false 0 [0,3] qiW)))
def qiT:List VOper:=[
 ⟨some 52,.move (.t 0),none,[]⟩,
 ⟨some 53,.len false (.t 52),none,[]⟩,
 ⟨some 54,.call true (.c (.fn 31 [])) [.t 53,.c (.d (.int .i64 1)),.c (.d (.int .i64 8))],none,[]⟩,
 ⟨some 55,.move (.t 54),none,[]⟩,
 ⟨some 56,.move (.t 0),some (55,true),[]⟩,
 ⟨some 57,.indexAddr 3 none (.t 56) (.c (.d (.int .i64 0))),some (55,true),[]⟩,
 ⟨some 58,.load true 3 (.t 57),some (55,true),[]⟩,
 ⟨some 59,.build [.str ⟨#[]⟩,.int .i64 0,.bool false] [(0,1,.c (.d (.str ⟨#[116,116]⟩)))],some (55,true),[]⟩,
 ⟨some 60,.eqAgg false [2,0,1] (.t 58) (.t 59),some (55,true),[]⟩,
 ⟨some 61,.pick (.t 55) (.t 60) (.c (.d (.bool false))),none,[]⟩,
 ⟨some 2,.move (.t 61),none,[]⟩]
def v82:VFn:=⟨1,[.tmp 2],(.seq (.region false 0 [0] qiZ) (.seq (.seq (.region false 0 [0,3] qiY) (.block 0 (.loop [0,3] qmb))) (.seq (.region false 0 [2] qiT) .ret)))⟩
def qra:List VOper:=[
 ⟨some 3,.box 0 (.t 1),none,[]⟩,
 ⟨some 4,.move (.c (.d (.bool false))),none,[]⟩]
def qq9:List VOper:=[
 ⟨some 6,.fieldAddr 0 (.t 3),none,[]⟩,
 ⟨some 7,.load false 1 (.t 6),none,[]⟩,
 ⟨some 8,.bin .eql (.t 7) (.c (.d (.int .i64 (-1)))),none,[]⟩]
def qq8:List VOper:=[
 ⟨some 9,.fieldAddr 1 (.t 3),none,[]⟩,
 ⟨some 10,.load false 1 (.t 9),none,[]⟩,
 ⟨some 11,.call true (.c (.fn 31 [])) [.t 10,.c (.d (.int .i64 0)),.c (.d (.int .i64 99))],none,[]⟩,
 ⟨some 12,.move (.t 11),none,[]⟩,
 ⟨some 13,.fieldAddr 2 (.t 3),some (12,true),[]⟩,
 ⟨some 14,.load false 1 (.t 13),some (12,true),[]⟩,
 ⟨some 15,.len false (.t 14),some (12,true),[]⟩,
 ⟨some 16,.bin .eql (.t 15) (.c (.d (.int .i64 0))),some (12,true),[]⟩,
 ⟨some 17,.pick (.t 12) (.t 16) (.c (.d (.bool false))),none,[]⟩,
 ⟨some 4,.move (.t 17),none,[]⟩]
def qye:List VOper:=[
 ⟨some 18,.fieldAddr 0 (.t 3),none,[]⟩,
 ⟨some 19,.load false 1 (.t 18),none,[0]⟩,
 ⟨some 20,.move (.t 0),none,[]⟩,
 ⟨some 21,.len false (.t 20),none,[2]⟩,
 ⟨some 22,.bin .sub (.t 21) (.c (.d (.int .i64 1))),none,[3]⟩,
 ⟨some 23,.call true (.c (.fn 31 [])) [.t 19,.c (.d (.int .i64 0)),.t 22],none,[1,4]⟩,
 ⟨some 24,.not (.t 23),none,[5]⟩,
 ⟨some 25,.move (.t 24),none,[5,6]⟩,
 ⟨some 26,.fieldAddr 1 (.t 3),some (25,false),[7]⟩,
 ⟨some 27,.load false 1 (.t 26),some (25,false),[7,8]⟩,
 ⟨some 28,.bin .neq (.t 27) (.c (.d (.int .i64 0))),some (25,false),[7,9]⟩,
 ⟨some 29,.pick (.t 25) (.c (.d (.bool true))) (.t 28),none,[7,10]⟩,
 ⟨some 30,.move (.t 29),none,[7,11]⟩,
 ⟨some 31,.move (.t 0),some (30,false),[12]⟩,
 ⟨some 32,.fieldAddr 0 (.t 3),some (30,false),[12]⟩,
 ⟨some 33,.load false 1 (.t 32),some (30,false),[12,14]⟩,
 ⟨some 34,.indexAddr 3 none (.t 31) (.t 33),some (30,false),[12,13,15]⟩,
 ⟨some 35,.fieldAddr 2 (.t 34),some (30,false),[12,16]⟩,
 ⟨some 36,.load false 1 (.t 35),some (30,false),[12,17]⟩,
 ⟨some 37,.not (.t 36),some (30,false),[12,18]⟩,
 ⟨some 38,.move (.t 37),some (30,false),[12,19]⟩,
 ⟨some 39,.fieldAddr 2 (.t 3),some (38,true),[20]⟩,
 ⟨some 40,.load false 1 (.t 39),some (38,true),[20,21]⟩,
 ⟨some 41,.len false (.t 40),some (38,true),[20,22]⟩,
 ⟨some 42,.move (.t 0),some (38,true),[20]⟩,
 ⟨some 43,.fieldAddr 0 (.t 3),some (38,true),[20]⟩,
 ⟨some 44,.load false 1 (.t 43),some (38,true),[20,25]⟩,
 ⟨some 45,.indexAddr 3 none (.t 42) (.t 44),some (38,true),[20,24,26]⟩,
 ⟨some 46,.fieldAddr 1 (.t 45),some (38,true),[20,27]⟩,
 ⟨some 47,.load false 1 (.t 46),some (38,true),[20,28]⟩,
 ⟨some 48,.bin .neq (.t 41) (.t 47),some (38,true),[20,23,29]⟩,
 ⟨some 49,.pick (.t 38) (.t 48) (.c (.d (.bool false))),some (30,false),[12,20,30]⟩,
 ⟨some 50,.pick (.t 30) (.c (.d (.bool true))) (.t 49),none,[12,31]⟩,
 ⟨some 51,.move (.t 50),none,[20,32]⟩,
 ⟨some 52,.move (.t 0),some (51,false),[33]⟩,
 ⟨some 53,.fieldAddr 0 (.t 3),some (51,false),[33]⟩,
 ⟨some 54,.load false 1 (.t 53),some (51,false),[33,35]⟩,
 ⟨some 55,.indexAddr 3 none (.t 52) (.t 54),some (51,false),[33,34,36]⟩,
 ⟨some 56,.fieldAddr 2 (.t 55),some (51,false),[33,37]⟩,
 ⟨some 57,.load false 1 (.t 56),some (51,false),[33,38]⟩,
 ⟨some 58,.move (.t 57),some (51,false),[33,39]⟩,
 ⟨some 59,.fieldAddr 2 (.t 3),some (58,true),[40]⟩,
 ⟨some 60,.load false 1 (.t 59),some (58,true),[40,41]⟩,
 ⟨some 61,.len false (.t 60),some (58,true),[40,42]⟩,
 ⟨some 62,.bin .lss (.t 61) (.c (.d (.int .i64 2))),some (58,true),[40,43]⟩,
 ⟨some 63,.pick (.t 58) (.t 62) (.c (.d (.bool false))),some (51,false),[33,40,44]⟩,
 ⟨some 64,.pick (.t 51) (.c (.d (.bool true))) (.t 63),none,[33,45]⟩]
def qBJ:List VOper:=[
 ⟨some 4,.move (.c (.d (.bool false))),none,[]⟩]
def qEi:List VOper:=[
 ⟨some 5,.move (.c (.d (.int .i64 0))),none,[]⟩]
def qyd:List VOper:=[
 ⟨some 65,.move (.t 5),none,[]⟩,
 ⟨some 66,.fieldAddr 2 (.t 3),none,[]⟩,
 ⟨some 67,.load false 1 (.t 66),none,[]⟩,
 ⟨some 68,.len false (.t 67),none,[]⟩,
 ⟨some 69,.bin .lss (.t 65) (.t 68),none,[]⟩]
def qyc:List VOper:=[
 ⟨some 72,.move (.t 0),none,[]⟩,
 ⟨some 73,.fieldAddr 0 (.t 3),none,[]⟩,
 ⟨some 74,.load false 1 (.t 73),none,[1]⟩,
 ⟨some 75,.indexAddr 3 none (.t 72) (.t 74),none,[0,2]⟩,
 ⟨some 76,.fieldAddr 2 (.t 75),none,[3]⟩,
 ⟨some 77,.load false 1 (.t 76),none,[4]⟩,
 ⟨some 78,.move (.t 77),none,[5]⟩,
 ⟨some 79,.fieldAddr 2 (.t 3),some (78,true),[6]⟩,
 ⟨some 80,.load false 1 (.t 79),some (78,true),[6,7]⟩,
 ⟨some 81,.move (.t 5),some (78,true),[6]⟩,
 ⟨some 82,.indexAddr 3 none (.t 80) (.t 81),some (78,true),[6,8,9]⟩,
 ⟨some 83,.fieldAddr 0 (.t 82),some (78,true),[6,10]⟩,
 ⟨some 84,.load false 1 (.t 83),some (78,true),[6,11]⟩,
 ⟨some 85,.fieldAddr 0 (.t 3),some (78,true),[6]⟩,
 ⟨some 86,.load false 1 (.t 85),some (78,true),[6,13]⟩,
 ⟨some 87,.bin .eql (.t 84) (.t 86),some (78,true),[6,12,14]⟩,
 ⟨some 88,.move (.t 87),some (78,true),[6,15]⟩,
 ⟨some 89,.move (.t 5),some (88,false),[16]⟩,
 ⟨some 90,.bin .gtr (.t 89) (.c (.d (.int .i64 0))),some (88,false),[16,17]⟩,
 ⟨some 91,.move (.t 90),some (88,false),[16,18]⟩,
 ⟨some 92,.fieldAddr 2 (.t 3),some (91,true),[19]⟩,
 ⟨some 93,.load false 1 (.t 92),some (91,true),[19,20]⟩,
 ⟨some 94,.move (.t 5),some (91,true),[19]⟩,
 ⟨some 95,.indexAddr 3 none (.t 93) (.t 94),some (91,true),[19,21,22]⟩,
 ⟨some 96,.load true 3 (.t 95),some (91,true),[19,23]⟩,
 ⟨some 97,.fieldAddr 2 (.t 3),some (91,true),[19]⟩,
 ⟨some 98,.load false 1 (.t 97),some (91,true),[19,25]⟩,
 ⟨some 99,.move (.t 5),some (91,true),[19]⟩,
 ⟨some 100,.bin .sub (.t 99) (.c (.d (.int .i64 1))),some (91,true),[19,27]⟩,
 ⟨some 101,.indexAddr 3 none (.t 98) (.t 100),some (91,true),[19,26,28]⟩,
 ⟨some 102,.load true 3 (.t 101),some (91,true),[19,29]⟩,
 ⟨some 103,.call true (.c (.fn 84 [])) [.t 96,.t 102],some (91,true),[19,24,30]⟩,
 ⟨some 104,.pick (.t 91) (.t 103) (.c (.d (.bool false))),some (88,false),[16,19,31]⟩,
 ⟨some 105,.pick (.t 88) (.c (.d (.bool true))) (.t 104),some (78,true),[6,16,32]⟩,
 ⟨some 106,.pick (.t 78) (.t 105) (.c (.d (.bool false))),none,[6,33]⟩,
 ⟨some 107,.move (.t 106),none,[31,34]⟩,
 ⟨some 108,.move (.t 0),some (107,false),[35]⟩,
 ⟨some 109,.fieldAddr 2 (.t 3),some (107,false),[35]⟩,
 ⟨some 110,.load false 1 (.t 109),some (107,false),[35,37]⟩,
 ⟨some 111,.move (.t 5),some (107,false),[35]⟩,
 ⟨some 112,.indexAddr 3 none (.t 110) (.t 111),some (107,false),[35,38,39]⟩,
 ⟨some 113,.load true 3 (.t 112),some (107,false),[35,40]⟩,
 ⟨some 114,.call true (.c (.fn 83 [])) [.t 108,.t 113],some (107,false),[35,36,41]⟩,
 ⟨some 115,.not (.t 114),some (107,false),[35,42]⟩,
 ⟨some 116,.pick (.t 107) (.c (.d (.bool true))) (.t 115),none,[35,43]⟩]
def qBH:List VOper:=[
 ⟨some 4,.move (.c (.d (.bool false))),none,[]⟩]
def qBI:List VOper:=[
 ⟨some 70,.move (.t 5),none,[]⟩,
 ⟨some 71,.bin .add (.t 70) (.c (.d (.int .i64 1))),none,[]⟩,
 ⟨some 5,.move (.t 71),none,[]⟩]
def qwI:VCode:=(.seq (.seq (.region false 0 [0,3,5,69] qyd) (.cond (.t 69) .skip (.exit 0))) (.seq (.block 1 (.seq (.region true 0 [0,3,5,116] qyc) (.cond (.t 116) (.seq (.region false 0 [4] qBH) .ret) .skip))) (.region false 0 [0,3,5] qBI)))
def qzA:List VOper:=[
 ⟨some 4,.move (.c (.d (.bool true))),none,[]⟩]
def v83:VFn:=⟨2,[.tmp 4],(.seq (.region false 1 [0,3] qra) (.seq (.seq (.region false 0 [0,3,8] qq9) (.cond (.t 8) (.seq (.region false 0 [4] qq8) .ret) .skip)) (.seq (.seq (.region true 0 [0,3,64] qye) (.cond (.t 64) (.seq (.region false 0 [4] qBJ) .ret) .skip)) (.seq (.seq (.region false 0 [0,3,5] qEi) (.block 0 (.loop [0,3,5] qwI))) (.seq (.region false 0 [4] qzA) .ret)))))⟩
def qlx:List VOper:=[
 ⟨some 2,.box 0 (.t 0),none,[]⟩,
 ⟨some 3,.box 1 (.t 1),none,[]⟩,
 ⟨some 4,.move (.c (.d (.bool false))),none,[]⟩]
def qlw:List VOper:=[
 ⟨some 6,.fieldAddr 0 (.t 2),none,[]⟩,
 ⟨some 7,.load false 1 (.t 6),none,[]⟩,
 ⟨some 8,.fieldAddr 0 (.t 3),none,[]⟩,
 ⟨some 9,.load false 1 (.t 8),none,[]⟩,
 ⟨some 10,.bin .neq (.t 7) (.t 9),none,[]⟩]
def qlv:List VOper:=[
 ⟨some 11,.fieldAddr 0 (.t 2),none,[]⟩,
 ⟨some 12,.load false 1 (.t 11),none,[]⟩,
 ⟨some 13,.fieldAddr 0 (.t 3),none,[]⟩,
 ⟨some 14,.load false 1 (.t 13),none,[]⟩,
 ⟨some 15,.bin .lss (.t 12) (.t 14),none,[]⟩,
 ⟨some 4,.move (.t 15),none,[]⟩]
def qlu:List VOper:=[
 ⟨some 16,.fieldAddr 1 (.t 2),none,[]⟩,
 ⟨some 17,.load false 1 (.t 16),none,[]⟩,
 ⟨some 18,.fieldAddr 1 (.t 3),none,[]⟩,
 ⟨some 19,.load false 1 (.t 18),none,[]⟩,
 ⟨some 20,.bin .neq (.t 17) (.t 19),none,[]⟩]
def qlt:List VOper:=[
 ⟨some 21,.fieldAddr 1 (.t 2),none,[]⟩,
 ⟨some 22,.load false 1 (.t 21),none,[]⟩,
 ⟨some 23,.fieldAddr 1 (.t 3),none,[]⟩,
 ⟨some 24,.load false 1 (.t 23),none,[]⟩,
 ⟨some 25,.bin .lss (.t 22) (.t 24),none,[]⟩,
 ⟨some 4,.move (.t 25),none,[]⟩]
def qls:List VOper:=[
 ⟨some 26,.fieldAddr 2 (.t 2),none,[]⟩,
 ⟨some 27,.load false 1 (.t 26),none,[]⟩,
 ⟨some 28,.len false (.t 27),none,[]⟩,
 ⟨some 29,.fieldAddr 2 (.t 3),none,[]⟩,
 ⟨some 30,.load false 1 (.t 29),none,[]⟩,
 ⟨some 31,.len false (.t 30),none,[]⟩,
 ⟨some 32,.bin .neq (.t 28) (.t 31),none,[]⟩]
def qlr:List VOper:=[
 ⟨some 33,.fieldAddr 2 (.t 2),none,[]⟩,
 ⟨some 34,.load false 1 (.t 33),none,[]⟩,
 ⟨some 35,.len false (.t 34),none,[]⟩,
 ⟨some 36,.fieldAddr 2 (.t 3),none,[]⟩,
 ⟨some 37,.load false 1 (.t 36),none,[]⟩,
 ⟨some 38,.len false (.t 37),none,[]⟩,
 ⟨some 39,.bin .lss (.t 35) (.t 38),none,[]⟩,
 ⟨some 4,.move (.t 39),none,[]⟩]
def qlq:List VOper:=[
 ⟨some 5,.move (.c (.d (.int .i64 0))),none,[]⟩]
def qlp:List VOper:=[
 ⟨some 40,.move (.t 5),none,[]⟩,
 ⟨some 41,.fieldAddr 2 (.t 2),none,[]⟩,
 ⟨some 42,.load false 1 (.t 41),none,[]⟩,
 ⟨some 43,.len false (.t 42),none,[]⟩,
 ⟨some 44,.bin .lss (.t 40) (.t 43),none,[]⟩]
def qtY:List VOper:=[
 ⟨some 47,.fieldAddr 2 (.t 2),none,[]⟩,
 ⟨some 48,.load false 1 (.t 47),none,[0]⟩,
 ⟨some 49,.move (.t 5),none,[]⟩,
 ⟨some 50,.indexAddr 3 none (.t 48) (.t 49),none,[1,2]⟩,
 ⟨some 51,.load true 3 (.t 50),none,[3]⟩,
 ⟨some 52,.fieldAddr 2 (.t 3),none,[]⟩,
 ⟨some 53,.load false 1 (.t 52),none,[5]⟩,
 ⟨some 54,.move (.t 5),none,[]⟩,
 ⟨some 55,.indexAddr 3 none (.t 53) (.t 54),none,[6,7]⟩,
 ⟨some 56,.load true 3 (.t 55),none,[8]⟩,
 ⟨some 57,.call true (.c (.fn 3 [])) [.t 51,.t 56],none,[4,9]⟩,
 ⟨some 58,.not (.t 57),none,[10]⟩]
def qtX:List VOper:=[
 ⟨some 59,.fieldAddr 2 (.t 2),none,[]⟩,
 ⟨some 60,.load false 1 (.t 59),none,[0]⟩,
 ⟨some 61,.move (.t 5),none,[]⟩,
 ⟨some 62,.indexAddr 3 none (.t 60) (.t 61),none,[1,2]⟩,
 ⟨some 63,.load true 3 (.t 62),none,[3]⟩,
 ⟨some 64,.fieldAddr 2 (.t 3),none,[]⟩,
 ⟨some 65,.load false 1 (.t 64),none,[5]⟩,
 ⟨some 66,.move (.t 5),none,[]⟩,
 ⟨some 67,.indexAddr 3 none (.t 65) (.t 66),none,[6,7]⟩,
 ⟨some 68,.load true 3 (.t 67),none,[8]⟩,
 ⟨some 69,.call true (.c (.fn 84 [])) [.t 63,.t 68],none,[4,9]⟩,
 ⟨some 4,.move (.t 69),none,[0,1,2,3,4,5,6,7,8,9,10]⟩]
def qlo:List VOper:=[
 ⟨some 45,.move (.t 5),none,[]⟩,
 ⟨some 46,.bin .add (.t 45) (.c (.d (.int .i64 1))),none,[]⟩,
 ⟨some 5,.move (.t 46),none,[]⟩]
def qwH:VCode:=(.seq (.seq (.region false 0 [2,3,5,44] qlp) (.cond (.t 44) .skip (.exit 0))) (.seq (.block 1 (.seq (.region true 0 [2,3,5,58] qtY) (.cond (.t 58) (.seq (.region true 0 [4] qtX) .ret) .skip))) (.region false 0 [2,3,5] qlo)))
def qfW:List VOper:=[
 ⟨some 4,.move (.c (.d (.bool false))),none,[]⟩]
def v84:VFn:=⟨2,[.tmp 4],(.seq (.region false 2 [2,3] qlx) (.seq (.seq (.region false 0 [2,3,10] qlw) (.cond (.t 10) (.seq (.region false 0 [4] qlv) .ret) .skip)) (.seq (.seq (.region false 0 [2,3,20] qlu) (.cond (.t 20) (.seq (.region false 0 [4] qlt) .ret) .skip)) (.seq (.seq (.region false 0 [2,3,32] qls) (.cond (.t 32) (.seq (.region false 0 [4] qlr) .ret) .skip)) (.seq (.seq (.region false 0 [2,3,5] qlq) (.block 0 (.loop [2,3,5] qwH))) (.seq (.region false 0 [4] qfW) .ret))))))⟩
def qgj:List VOper:=[
 ⟨some 3,.box 0 (.t 1),none,[]⟩,
 ⟨some 4,.move (.c (.d (.int .i64 0))),none,[]⟩]
def qgi:List VOper:=[
 ⟨some 5,.move (.c (.d (.int .i64 1))),none,[]⟩]
def qgh:List VOper:=[
 ⟨some 7,.move (.t 0),none,[]⟩,
 ⟨some 8,.fieldAddr 0 (.t 3),none,[]⟩,
 ⟨some 9,.load false 1 (.t 8),none,[]⟩,
 ⟨some 10,.call true (.c (.fn 33 [])) [.t 7,.t 9],none,[]⟩,
 ⟨some 11,.move (.t 10),none,[]⟩,
 ⟨some 12,.fieldAddr 2 (.t 3),some (11,true),[]⟩,
 ⟨some 13,.load false 1 (.t 12),some (11,true),[]⟩,
 ⟨some 14,.len false (.t 13),some (11,true),[]⟩,
 ⟨some 15,.bin .gtr (.t 14) (.c (.d (.int .i64 0))),some (11,true),[]⟩,
 ⟨some 16,.pick (.t 11) (.t 15) (.c (.d (.bool false))),none,[]⟩]
def qgg:List VOper:=[
 ⟨some 17,.fieldAddr 2 (.t 3),none,[]⟩,
 ⟨some 18,.load false 1 (.t 17),none,[]⟩,
 ⟨some 19,.len false (.t 18),none,[]⟩,
 ⟨some 20,.bin .sub (.t 19) (.c (.d (.int .i64 1))),none,[]⟩,
 ⟨some 5,.move (.t 20),none,[]⟩]
def qgf:List VOper:=[
 ⟨some 6,.move (.c (.d (.int .i64 0))),none,[]⟩]
def qge:List VOper:=[
 ⟨some 21,.move (.t 6),none,[]⟩,
 ⟨some 22,.fieldAddr 2 (.t 3),none,[]⟩,
 ⟨some 23,.load false 1 (.t 22),none,[]⟩,
 ⟨some 24,.len false (.t 23),none,[]⟩,
 ⟨some 25,.bin .lss (.t 21) (.t 24),none,[]⟩]
def qgc:List VOper:=[
 ⟨some 28,.move (.t 5),none,[]⟩,
 ⟨some 29,.move (.t 0),none,[]⟩,
 ⟨some 30,.fieldAddr 2 (.t 3),none,[]⟩,
 ⟨some 31,.load false 1 (.t 30),none,[]⟩,
 ⟨some 32,.move (.t 6),none,[]⟩,
 ⟨some 33,.indexAddr 3 none (.t 31) (.t 32),none,[]⟩,
 ⟨some 34,.load true 3 (.t 33),none,[]⟩,
 ⟨some 35,.call true (.c (.fn 117 [])) [.t 29,.t 34],none,[]⟩,
 ⟨some 36,.bin .add (.t 28) (.t 35),none,[]⟩,
 ⟨some 5,.move (.t 36),none,[]⟩]
def qgd:List VOper:=[
 ⟨some 26,.move (.t 6),none,[]⟩,
 ⟨some 27,.bin .add (.t 26) (.c (.d (.int .i64 1))),none,[]⟩,
 ⟨some 6,.move (.t 27),none,[]⟩]
def qqD:VCode:=(.seq (.seq (.region false 0 [0,3,5,6,25] qge) (.cond (.t 25) .skip (.exit 0))) (.seq (.block 1 (.region false 0 [0,3,5,6] qgc)) (.region false 0 [0,3,5,6] qgd)))
def qgb:List VOper:=[
 ⟨some 37,.move (.t 5),none,[]⟩,
 ⟨some 4,.move (.t 37),none,[]⟩]
def qtw:VFn:=⟨2,[.tmp 4],(.seq (.region false 1 [0,3] qgj) (.seq (.region false 0 [0,3,5] qgi) (.seq (.seq (.region false 0 [0,3,5,16] qgh) (.cond (.t 16) (.region false 0 [0,3,5] qgg) .skip)) (.seq (.seq (.region false 0 [0,3,5,6] qgf) (.block 0 (.loop [0,3,5,6] qqD))) (.seq (.region false 0 [4] qgb) .ret)))))⟩
def qga:List VOper:=[
 ⟨some 3,.box 0 (.t 1),none,[]⟩,
 ⟨some 4,.move (.c (.d (.int .i64 0))),none,[]⟩]
def qf9:List VOper:=[
 ⟨some 5,.move (.c (.d (.int .i64 1))),none,[]⟩]
def qf8:List VOper:=[
 ⟨some 8,.move (.t 0),none,[]⟩,
 ⟨some 9,.fieldAddr 0 (.t 3),none,[]⟩,
 ⟨some 10,.load false 1 (.t 9),none,[]⟩,
 ⟨some 11,.call true (.c (.fn 34 [])) [.t 8,.t 10],none,[]⟩,
 ⟨some 12,.move (.t 11),none,[]⟩,
 ⟨some 13,.fieldAddr 2 (.t 3),some (12,true),[]⟩,
 ⟨some 14,.load false 1 (.t 13),some (12,true),[]⟩,
 ⟨some 15,.len false (.t 14),some (12,true),[]⟩,
 ⟨some 16,.bin .gtr (.t 15) (.c (.d (.int .i64 0))),some (12,true),[]⟩,
 ⟨some 17,.pick (.t 12) (.t 16) (.c (.d (.bool false))),none,[]⟩]
def qf7:List VOper:=[
 ⟨some 18,.fieldAddr 2 (.t 3),none,[]⟩,
 ⟨some 19,.load false 1 (.t 18),none,[]⟩,
 ⟨some 20,.len false (.t 19),none,[]⟩,
 ⟨some 21,.bin .sub (.t 20) (.c (.d (.int .i64 1))),none,[]⟩,
 ⟨some 5,.move (.t 21),none,[]⟩]
def qf6:List VOper:=[
 ⟨some 22,.fieldAddr 2 (.t 3),none,[]⟩,
 ⟨some 23,.load false 1 (.t 22),none,[]⟩,
 ⟨some 24,.len false (.t 23),none,[]⟩,
 ⟨some 25,.move (.c (.d (.int .i64 0))),none,[]⟩]
def qf5:List VOper:=[
 ⟨some 26,.bin .lss (.t 25) (.t 24),none,[]⟩]
def qf4:List VOper:=[
 ⟨some 27,.indexAddr 3 none (.t 23) (.t 25),none,[]⟩,
 ⟨some 28,.load true 3 (.t 27),none,[]⟩,
 ⟨some 7,.alloc 0 [.int .i64 0,.int .i64 0,.sl .nil []],none,[]⟩,
 ⟨none,.store false 3 (.t 7) (.t 28),none,[]⟩]
def qf3:List VOper:=[
 ⟨some 29,.move (.t 5),none,[]⟩,
 ⟨some 30,.move (.t 0),none,[]⟩,
 ⟨some 31,.load true 3 (.t 7),none,[]⟩,
 ⟨some 32,.call true (.c (.fn 118 [])) [.t 30,.t 31],none,[]⟩,
 ⟨some 33,.bin .add (.t 29) (.t 32),none,[]⟩,
 ⟨some 5,.move (.t 33),none,[]⟩]
def qf2:List VOper:=[
 ⟨some 34,.bin .add (.t 25) (.c (.d (.int .i64 1))),none,[]⟩,
 ⟨some 25,.move (.t 34),none,[]⟩]
def qqC:VCode:=(.seq (.region false 0 [0,5,23,24,25,26] qf5) (.seq (.cond (.t 26) .skip (.exit 0)) (.seq (.block 1 (.seq (.region false 1 [0,5,7,23,24,25] qf4) (.region false 0 [0,5,23,24,25] qf3))) (.region false 0 [0,5,23,24,25] qf2))))
def qf1:List VOper:=[
 ⟨some 35,.move (.t 5),none,[]⟩,
 ⟨some 4,.move (.t 35),none,[]⟩]
def qtv:VFn:=⟨2,[.tmp 4],(.seq (.region false 1 [0,3] qga) (.seq (.region false 0 [0,3,5] qf9) (.seq (.seq (.region false 0 [0,3,5,17] qf8) (.cond (.t 17) (.region false 0 [0,3,5] qf7) .skip)) (.seq (.seq (.region false 0 [0,5,23,24,25] qf6) (.block 0 (.loop [0,5,23,24,25] qqC))) (.seq (.region false 0 [4] qf1) .ret)))))⟩
def qAd:List VOper:=[
 ⟨some 2,.move (.c (.d (.bool false))),none,[]⟩]
def qAc:List VOper:=[
 ⟨some 3,.move (.t 0),none,[]⟩,
 ⟨some 4,.len false (.t 3),none,[]⟩,
 ⟨some 5,.bin .gtr (.t 4) (.c (.d (.int .i64 1048576))),none,[]⟩,
 ⟨some 2,.move (.t 5),none,[]⟩]
def qDs:VFn:=⟨1,[.tmp 2],(.seq (.region false 0 [0] qAd) (.seq (.region false 0 [2] qAc) .ret))⟩
def qAb:List VOper:=[
 ⟨some 2,.alloc 0 [.int .i64 0,.int .i64 0,.sl .nil []],none,[]⟩]
def qAa:List VOper:=[
 ⟨some 3,.move (.t 0),none,[]⟩,
 ⟨some 4,.build [.int .i64 0,.int .i64 0,.sl .nil []] [(0,1,.c (.d (.int .i64 (-1)))),(1,1,.t 3)],none,[]⟩,
 ⟨none,.store false 3 (.t 2) (.t 4),none,[]⟩]
def qDr:VFn:=⟨1,[.cell 2 true 3],(.seq (.region false 1 [0,2] qAb) (.seq (.region false 0 [2] qAa) .ret))⟩
def qf0:List VOper:=[
 ⟨some 3,.box 0 (.t 1),none,[]⟩,
 ⟨some 4,.alloc 1 [.int .i64 0,.int .i64 0,.sl .nil []],none,[]⟩]
def qfZ:List VOper:=[
 ⟨some 9,.fieldAddr 0 (.t 3),none,[]⟩,
 ⟨some 10,.load false 1 (.t 9),none,[]⟩,
 ⟨some 11,.fieldAddr 1 (.t 3),none,[]⟩,
 ⟨some 12,.load false 1 (.t 11),none,[]⟩,
 ⟨some 13,.build [.int .i64 0,.int .i64 0,.sl .nil []] [(0,1,.t 10),(1,1,.t 12)],none,[]⟩,
 ⟨some 5,.alloc 0 [.int .i64 0,.int .i64 0,.sl .nil []],none,[]⟩,
 ⟨none,.store false 3 (.t 5) (.t 13),none,[]⟩]
def qfY:List VOper:=[
 ⟨some 6,.move (.c (.d (.int .i64 0))),none,[]⟩]
def qhW:List VOper:=[
 ⟨some 14,.move (.t 6),none,[]⟩,
 ⟨some 15,.fieldAddr 2 (.t 3),none,[]⟩,
 ⟨some 16,.load false 1 (.t 15),none,[]⟩,
 ⟨some 17,.len false (.t 16),none,[]⟩,
 ⟨some 18,.bin .lss (.t 14) (.t 17),none,[]⟩]
def qhU:List VOper:=[
 ⟨some 21,.move (.t 0),none,[]⟩,
 ⟨some 22,.fieldAddr 2 (.t 3),none,[]⟩,
 ⟨some 23,.load false 1 (.t 22),none,[]⟩,
 ⟨some 24,.move (.t 6),none,[]⟩,
 ⟨some 25,.indexAddr 3 none (.t 23) (.t 24),none,[]⟩,
 ⟨some 26,.load true 3 (.t 25),none,[]⟩,
 ⟨some 27,.call true (.c (.fn 153 [])) [.t 21,.t 26],none,[]⟩,
 ⟨some 7,.alloc 0 [.int .i64 0,.int .i64 0,.sl .nil []],none,[]⟩,
 ⟨none,.store false 3 (.t 7) (.t 27),none,[]⟩]
def qeN:List VOper:=[
 ⟨some 45,.move (.t 0),none,[]⟩,
 ⟨some 46,.fieldAddr 0 (.t 3),none,[]⟩,
 ⟨some 47,.load false 1 (.t 46),none,[]⟩,
 ⟨some 48,.call true (.c (.fn 33 [])) [.t 45,.t 47],none,[]⟩,
 ⟨some 49,.not (.t 48),none,[]⟩,
 ⟨some 44,.move (.t 49),none,[]⟩]
def qeM:List VOper:=[
 ⟨some 50,.fieldAddr 2 (.t 5),none,[]⟩,
 ⟨some 51,.load false 1 (.t 50),none,[]⟩,
 ⟨some 52,.load true 3 (.t 7),none,[]⟩,
 ⟨some 53,.buildSlice 3 (.agg [.int .i64 0,.int .i64 0,.sl .nil []]) 1 [(0,.t 52)],none,[]⟩,
 ⟨some 54,.append 3 40 (.t 51) (.t 53),none,[]⟩,
 ⟨some 55,.fieldAddr 2 (.t 5),none,[]⟩,
 ⟨none,.store false 1 (.t 55) (.t 54),none,[]⟩]
def qeL:List VOper:=[
 ⟨some 57,.fieldAddr 0 (.t 7),none,[]⟩,
 ⟨some 58,.load false 1 (.t 57),none,[]⟩,
 ⟨some 59,.fieldAddr 0 (.t 3),none,[]⟩,
 ⟨some 60,.load false 1 (.t 59),none,[]⟩,
 ⟨some 61,.bin .neq (.t 58) (.t 60),none,[]⟩,
 ⟨some 56,.move (.t 61),none,[]⟩]
def qeK:List VOper:=[
 ⟨some 62,.fieldAddr 2 (.t 5),none,[]⟩,
 ⟨some 63,.load false 1 (.t 62),none,[]⟩,
 ⟨some 64,.load true 3 (.t 7),none,[]⟩,
 ⟨some 65,.call false (.c (.fn 154 [])) [.t 63,.t 64],none,[]⟩,
 ⟨some 66,.fieldAddr 2 (.t 5),none,[]⟩,
 ⟨none,.store false 1 (.t 66) (.t 65),none,[]⟩]
def qhT:List VOper:=[
 ⟨some 8,.move (.c (.d (.int .i64 0))),none,[]⟩]
def qhS:List VOper:=[
 ⟨some 28,.move (.t 8),none,[]⟩,
 ⟨some 29,.fieldAddr 2 (.t 7),none,[]⟩,
 ⟨some 30,.load false 1 (.t 29),none,[]⟩,
 ⟨some 31,.len false (.t 30),none,[]⟩,
 ⟨some 32,.bin .lss (.t 28) (.t 31),none,[]⟩]
def quZ:List FOper:=[
 .one ⟨some 35,.fieldAddr 2 (.t 5),none,[]⟩,
 .one ⟨some 36,.load false 1 (.t 35),none,[0]⟩,
 .one ⟨some 37,.fieldAddr 2 (.t 7),none,[]⟩,
 .el 38 37 39 (.t 8) 40 3 41 [2] [] [3,4] [5],
 .one ⟨some 42,.call false (.c (.fn 154 [])) [.t 36,.t 41],none,[1,6]⟩,
 .one ⟨some 43,.fieldAddr 2 (.t 5),none,[0,1,2,3,4,5,6,7]⟩,
 .one ⟨none,.store false 1 (.t 43) (.t 42),none,[0,1,2,3,4,5,6,7,8]⟩]
def qhR:List VOper:=[
 ⟨some 33,.move (.t 8),none,[]⟩,
 ⟨some 34,.bin .add (.t 33) (.c (.d (.int .i64 1))),none,[]⟩,
 ⟨some 8,.move (.t 34),none,[]⟩]
def qqB:VCode:=(.seq (.seq (.region false 0 [0,3,4,5,6,7,8,32] qhS) (.cond (.t 32) .skip (.exit 3))) (.seq (.block 4 (.regionF true 0 [0,3,4,5,6,7,8] quZ)) (.region false 0 [0,3,4,5,6,7,8] qhR)))
def qhV:List VOper:=[
 ⟨some 19,.move (.t 6),none,[]⟩,
 ⟨some 20,.bin .add (.t 19) (.c (.d (.int .i64 1))),none,[]⟩,
 ⟨some 6,.move (.t 20),none,[]⟩]
def qic:VCode:=(.seq (.seq (.region false 0 [0,3,4,5,6,18] qhW) (.cond (.t 18) .skip (.exit 0))) (.seq (.block 1 (.seq (.region false 1 [0,3,4,5,6,7] qhU) (.block 2 (.seq (.region false 0 [0,3,4,5,6,7,44] qeN) (.cond (.t 44) (.region false 0 [0,3,4,5,6] qeM) (.seq (.region false 0 [0,3,4,5,6,7,56] qeL) (.cond (.t 56) (.region false 0 [0,3,4,5,6] qeK) (.seq (.region false 0 [0,3,4,5,6,7,8] qhT) (.block 3 (.loop [0,3,4,5,6,7,8] qqB)))))))))) (.region false 0 [0,3,4,5,6] qhV)))
def qea:List VOper:=[
 ⟨some 67,.load true 3 (.t 5),none,[]⟩,
 ⟨none,.store false 3 (.t 4) (.t 67),none,[]⟩]
def qDq:VFn:=⟨2,[.cell 4 true 3],(.seq (.region false 2 [0,3,4] qf0) (.seq (.region false 1 [0,3,4,5] qfZ) (.seq (.seq (.region false 0 [0,3,4,5,6] qfY) (.block 0 (.loop [0,3,4,5,6] qic))) (.seq (.region false 0 [4] qea) .ret))))⟩
def qm5:List VOper:=[
 ⟨some 3,.box 0 (.t 1),none,[]⟩,
 ⟨some 4,.move (.c (.d (.sl .nil []))),none,[]⟩]
def qm4:List VOper:=[
 ⟨some 5,.move (.c (.d (.int .i64 0))),none,[]⟩]
def quY:List VOper:=[
 ⟨some 7,.move (.t 5),none,[]⟩,
 ⟨some 8,.move (.t 0),none,[]⟩,
 ⟨some 9,.len false (.t 8),none,[1]⟩,
 ⟨some 10,.bin .lss (.t 7) (.t 9),none,[0,2]⟩,
 ⟨some 11,.move (.t 10),none,[3]⟩,
 ⟨some 12,.load true 3 (.t 3),some (11,true),[4]⟩,
 ⟨some 13,.move (.t 0),some (11,true),[4]⟩,
 ⟨some 14,.move (.t 5),some (11,true),[4]⟩,
 ⟨some 15,.indexAddr 3 none (.t 13) (.t 14),some (11,true),[4,6,7]⟩,
 ⟨some 16,.load true 3 (.t 15),some (11,true),[4,8]⟩,
 ⟨some 17,.call true (.c (.fn 84 [])) [.t 12,.t 16],some (11,true),[4,5,9]⟩,
 ⟨some 18,.not (.t 17),some (11,true),[4,10]⟩,
 ⟨some 19,.pick (.t 11) (.t 18) (.c (.d (.bool false))),none,[4,11]⟩]
def qpT:List VOper:=[
 ⟨some 20,.move (.t 5),none,[]⟩,
 ⟨some 21,.bin .add (.t 20) (.c (.d (.int .i64 1))),none,[]⟩,
 ⟨some 5,.move (.t 21),none,[]⟩]
def qkX:VCode:=(.seq (.seq (.region true 0 [0,3,5,19] quY) (.cond (.t 19) .skip (.exit 0))) (.block 1 (.region false 0 [0,3,5] qpT)))
def qm3:List FOper:=[
 .one ⟨some 22,.buildSlice 3 (.agg [.int .i64 0,.int .i64 0,.sl .nil []]) 0 [],none,[]⟩,
 .sl 23 0 24 (.t 5) 25 3 none (some (.t 24)) [] [] [],
 .one ⟨some 26,.append 3 40 (.t 22) (.t 25),none,[]⟩,
 .one ⟨some 6,.move (.t 26),none,[]⟩]
def qm2:List VOper:=[
 ⟨some 27,.move (.t 6),none,[]⟩,
 ⟨some 28,.load true 3 (.t 3),none,[]⟩,
 ⟨some 29,.buildSlice 3 (.agg [.int .i64 0,.int .i64 0,.sl .nil []]) 1 [(0,.t 28)],none,[]⟩,
 ⟨some 30,.append 3 40 (.t 27) (.t 29),none,[]⟩,
 ⟨some 6,.move (.t 30),none,[]⟩]
def qm1:List FOper:=[
 .one ⟨some 31,.move (.t 6),none,[]⟩,
 .sl 32 0 33 (.t 5) 34 3 (some (.t 33)) none [] [] [],
 .one ⟨some 35,.append 3 40 (.t 31) (.t 34),none,[]⟩,
 .one ⟨some 4,.move (.t 35),none,[]⟩]
def qDp:VFn:=⟨2,[.tmp 4],(.seq (.region false 1 [0,3] qm5) (.seq (.region false 0 [0,3,5] qm4) (.seq (.block 0 (.loop [0,3,5] qkX)) (.seq (.regionF false 0 [0,3,5,6] qm3) (.seq (.region false 0 [0,5,6] qm2) (.seq (.regionF false 0 [4] qm1) .ret))))))⟩
def qz9:List VOper:=[
 ⟨some 0,.move (.c (.d (.sl .nil []))),none,[]⟩]
def qz8:List VOper:=[
 ⟨some 1,.build [.str ⟨#[]⟩,.int .i64 0,.bool false] [(0,1,.c (.d (.str ⟨#[116,116]⟩)))],none,[]⟩,
 ⟨some 2,.build [.str ⟨#[]⟩,.int .i64 0,.bool false] [(0,1,.c (.d (.str ⟨#[97]⟩)))],none,[]⟩,
 ⟨some 3,.build [.str ⟨#[]⟩,.int .i64 0,.bool false] [(0,1,.c (.d (.str ⟨#[98]⟩)))],none,[]⟩,
 ⟨some 4,.build [.str ⟨#[]⟩,.int .i64 0,.bool false] [(0,1,.c (.d (.str ⟨#[103]⟩))),(1,1,.c (.d (.int .i64 1)))],none,[]⟩,
 ⟨some 5,.build [.str ⟨#[]⟩,.int .i64 0,.bool false] [(0,1,.c (.d (.str ⟨#[104]⟩))),(1,1,.c (.d (.int .i64 2)))],none,[]⟩,
 ⟨some 6,.build [.str ⟨#[]⟩,.int .i64 0,.bool false] [(0,1,.c (.d (.str ⟨#[102]⟩))),(1,1,.c (.d (.int .i64 2))),(2,1,.c (.d (.bool true)))],none,[]⟩,
 ⟨some 7,.build [.str ⟨#[]⟩,.int .i64 0,.bool false] [(0,1,.c (.d (.str ⟨#[107]⟩))),(1,1,.c (.d (.int .i64 2))),(2,1,.c (.d (.bool true)))],none,[]⟩,
 ⟨some 8,.buildSlice 3 (.agg [.str ⟨#[]⟩,.int .i64 0,.bool false]) 7 [(0,.t 1),(1,.t 2),(2,.t 3),(3,.t 4),(4,.t 5),(5,.t 6),(6,.t 7)],none,[]⟩,
 ⟨some 0,.move (.t 8),none,[]⟩]
def qDo:VFn:=⟨0,[.tmp 0],(.seq (.region false 0 [] qz9) (.seq (.region false 0 [0] qz8) .ret))⟩
def qm0:List VOper:=[
 ⟨some 2,.move (.c .nilp),none,[]⟩]
def qmZ:List VOper:=[
 ⟨some 5,.move (.t 0),none,[]⟩,
 ⟨some 6,.len false (.t 5),none,[]⟩,
 ⟨some 7,.bin .add (.c (.d (.int .i64 27064))) (.t 6),none,[]⟩,
 ⟨some 3,.move (.t 7),none,[]⟩]
def qmY:List VOper:=[
 ⟨some 4,.move (.c (.d (.int .i64 0))),none,[]⟩]
def qpS:List VOper:=[
 ⟨some 8,.move (.t 4),none,[]⟩,
 ⟨some 9,.move (.t 0),none,[]⟩,
 ⟨some 10,.len false (.t 9),none,[]⟩,
 ⟨some 11,.bin .lss (.t 8) (.t 10),none,[]⟩,
 ⟨some 12,.move (.t 11),none,[]⟩,
 ⟨some 13,.move (.t 4),some (12,true),[]⟩,
 ⟨some 14,.bin .lss (.t 13) (.c (.d (.int .i64 4000))),some (12,true),[]⟩,
 ⟨some 15,.pick (.t 12) (.t 14) (.c (.d (.bool false))),none,[]⟩]
def qpQ:List VOper:=[
 ⟨some 18,.move (.t 3),none,[]⟩,
 ⟨some 19,.bin .mul (.t 18) (.c (.d (.int .i64 131))),none,[]⟩,
 ⟨some 20,.move (.t 0),none,[]⟩,
 ⟨some 21,.move (.t 4),none,[]⟩,
 ⟨some 22,.indexAddr 1 none (.t 20) (.t 21),none,[]⟩,
 ⟨some 23,.load false 1 (.t 22),none,[]⟩,
 ⟨some 24,.conv (.kind .i64) (.t 23),none,[]⟩,
 ⟨some 25,.bin .add (.t 19) (.t 24),none,[]⟩,
 ⟨some 26,.bin .add (.t 25) (.c (.d (.int .i64 7))),none,[]⟩,
 ⟨some 27,.bin .and (.t 26) (.c (.d (.int .i64 1073741823))),none,[]⟩,
 ⟨some 3,.move (.t 27),none,[]⟩]
def qpR:List VOper:=[
 ⟨some 16,.move (.t 4),none,[]⟩,
 ⟨some 17,.bin .add (.t 16) (.c (.d (.int .i64 1))),none,[]⟩,
 ⟨some 4,.move (.t 17),none,[]⟩]
def qnQ:VCode:=(.seq (.seq (.region false 0 [0,3,4,15] qpS) (.cond (.t 15) .skip (.exit 0))) (.seq (.block 1 (.region false 0 [0,3,4] qpQ)) (.region false 0 [0,3,4] qpR)))
def qmX:List VOper:=[
 ⟨some 28,.move (.t 0),none,[]⟩,
 ⟨some 29,.move (.t 3),none,[]⟩,
 ⟨some 30,.build [.sl .nil [],.int .i64 0,.int .i64 0] [(0,1,.t 28),(2,1,.t 29)],none,[]⟩,
 ⟨some 31,.box 0 (.t 30),none,[]⟩,
 ⟨some 2,.move (.t 31),none,[]⟩]
def qDn:VFn:=⟨1,[.tmp 2],(.seq (.region false 0 [0] qm0) (.seq (.region false 0 [0,3] qmZ) (.seq (.seq (.region false 0 [0,3,4] qmY) (.block 0 (.loop [0,3,4] qnQ))) (.seq (.region false 1 [2] qmX) .ret))))⟩
def qz7:List VOper:=[
 ⟨some 4,.move (.c (.d (.int .i64 0))),none,[]⟩]
def qz6:List VOper:=[
 ⟨some 9,.move (.t 1),none,[]⟩,
 ⟨some 10,.bin .leq (.t 9) (.c (.d (.int .i64 0))),none,[]⟩]
def qz5:List VOper:=[
 ⟨some 4,.move (.c (.d (.int .i64 0))),none,[]⟩]
def qz4:List VOper:=[
 ⟨some 11,.move (.t 1),none,[]⟩,
 ⟨some 12,.bin .leq (.t 11) (.c (.d (.int .i64 256))),none,[]⟩]
def qz3:List VOper:=[
 ⟨some 13,.move (.t 0),none,[]⟩,
 ⟨some 14,.call false (.c (.fn 165 [])) [.t 13],none,[]⟩,
 ⟨some 15,.move (.t 1),none,[]⟩,
 ⟨some 16,.bin .rem (.t 14) (.t 15),none,[]⟩,
 ⟨some 4,.move (.t 16),none,[]⟩]
def qz2:List VOper:=[
 ⟨some 17,.move (.t 0),none,[]⟩,
 ⟨some 18,.call false (.c (.fn 165 [])) [.t 17],none,[]⟩,
 ⟨some 5,.move (.t 18),none,[]⟩]
def qz1:List VOper:=[
 ⟨some 19,.move (.t 0),none,[]⟩,
 ⟨some 20,.call false (.c (.fn 165 [])) [.t 19],none,[]⟩,
 ⟨some 6,.move (.t 20),none,[]⟩]
def qz0:List VOper:=[
 ⟨some 21,.move (.t 0),none,[]⟩,
 ⟨some 22,.call false (.c (.fn 165 [])) [.t 21],none,[]⟩,
 ⟨some 7,.move (.t 22),none,[]⟩]
def qzZ:List VOper:=[
 ⟨some 23,.move (.t 0),none,[]⟩,
 ⟨some 24,.call false (.c (.fn 165 [])) [.t 23],none,[]⟩,
 ⟨some 8,.move (.t 24),none,[]⟩]
def qzY:List VOper:=[
 ⟨some 25,.move (.t 5),none,[]⟩,
 ⟨some 26,.bin .mul (.t 25) (.c (.d (.int .i64 16777216))),none,[]⟩,
 ⟨some 27,.move (.t 6),none,[]⟩,
 ⟨some 28,.bin .mul (.t 27) (.c (.d (.int .i64 65536))),none,[]⟩,
 ⟨some 29,.bin .add (.t 26) (.t 28),none,[]⟩,
 ⟨some 30,.move (.t 7),none,[]⟩,
 ⟨some 31,.bin .mul (.t 30) (.c (.d (.int .i64 256))),none,[]⟩,
 ⟨some 32,.bin .add (.t 29) (.t 31),none,[]⟩,
 ⟨some 33,.move (.t 8),none,[]⟩,
 ⟨some 34,.bin .add (.t 32) (.t 33),none,[]⟩,
 ⟨some 35,.move (.t 1),none,[]⟩,
 ⟨some 36,.bin .rem (.t 34) (.t 35),none,[]⟩,
 ⟨some 4,.move (.t 36),none,[]⟩]
def qDm:VFn:=⟨2,[.tmp 4],(.seq (.region false 0 [0,1] qz7) (.seq (.seq (.region false 0 [0,1,10] qz6) (.cond (.t 10) (.seq (.region false 0 [4] qz5) .ret) .skip)) (.seq (.seq (.region false 0 [0,1,12] qz4) (.cond (.t 12) (.seq (.region false 0 [4] qz3) .ret) .skip)) (.seq (.region false 0 [0,1,5] qz2) (.seq (.region false 0 [0,1,5,6] qz1) (.seq (.region false 0 [0,1,5,6,7] qz0) (.seq (.region false 0 [1,5,6,7,8] qzZ) (.seq (.region false 0 [4] qzY) .ret))))))))⟩
def qzX:List VOper:=[
 ⟨some 4,.move (.c (.d (.int .i64 0))),none,[]⟩]
def qzW:List VOper:=[
 ⟨some 5,.move (.t 1),none,[]⟩,
 ⟨some 6,.move (.t 0),none,[]⟩,
 ⟨some 7,.move (.t 1),none,[]⟩,
 ⟨some 8,.len false (.t 7),none,[]⟩,
 ⟨some 9,.call false (.c (.fn 159 [])) [.t 6,.t 8],none,[]⟩,
 ⟨some 10,.indexAddr 1 none (.t 5) (.t 9),none,[]⟩,
 ⟨some 11,.load false 1 (.t 10),none,[]⟩,
 ⟨some 4,.move (.t 11),none,[]⟩]
def qDl:VFn:=⟨2,[.tmp 4],(.seq (.region false 0 [0,1] qzX) (.seq (.region false 0 [4] qzW) .ret))⟩
def quX:List VOper:=[
 ⟨some 2,.alloc 0 [.int .i64 0,.int .i64 0,.sl .nil []],none,[]⟩]
def quW:List VOper:=[
 ⟨some 6,.move (.t 0),none,[]⟩,
 ⟨some 7,.call false (.c (.fn 163 [])) [.t 6,.c (.d (.int .i64 3))],none,[]⟩,
 ⟨some 3,.alloc 3 [.int .i64 0,.int .i64 0,.sl .nil []],none,[]⟩,
 ⟨none,.store false 3 (.t 3) (.t 7),none,[]⟩]
def quV:List VOper:=[
 ⟨some 4,.move (.t 3),none,[]⟩]
def quU:List VOper:=[
 ⟨some 5,.move (.c (.d (.int .i64 0))),none,[]⟩]
def qkA:List VOper:=[
 ⟨some 8,.move (.t 5),none,[]⟩,
 ⟨some 9,.bin .lss (.t 8) (.c (.d (.int .i64 3))),none,[]⟩,
 ⟨some 10,.move (.t 9),none,[]⟩,
 ⟨some 11,.move (.t 4),some (10,true),[]⟩,
 ⟨some 12,.nilCheck (.t 11),some (10,true),[]⟩,
 ⟨some 13,.fieldAddr 2 (.t 12),some (10,true),[]⟩,
 ⟨some 14,.load false 1 (.t 13),some (10,true),[]⟩,
 ⟨some 15,.len false (.t 14),some (10,true),[]⟩,
 ⟨some 16,.bin .gtr (.t 15) (.c (.d (.int .i64 0))),some (10,true),[]⟩,
 ⟨some 17,.pick (.t 10) (.t 16) (.c (.d (.bool false))),none,[]⟩,
 ⟨some 18,.move (.t 17),none,[]⟩,
 ⟨some 19,.move (.t 0),some (18,true),[]⟩,
 ⟨some 20,.call false (.c (.fn 162 [])) [.t 19,.c (.d (.int .i64 2))],some (18,true),[]⟩,
 ⟨some 21,.not (.t 20),some (18,true),[]⟩,
 ⟨some 22,.pick (.t 18) (.t 21) (.c (.d (.bool false))),none,[]⟩]
def qmW:List VOper:=[
 ⟨some 25,.move (.t 4),none,[]⟩,
 ⟨some 26,.nilCheck (.t 25),none,[0]⟩,
 ⟨some 27,.fieldAddr 2 (.t 26),none,[1]⟩,
 ⟨some 28,.loadS false 1 (.t 27) 0,none,[2]⟩,
 ⟨some 29,.move (.t 0),none,[]⟩,
 ⟨some 30,.move (.t 4),none,[]⟩,
 ⟨some 31,.nilCheck (.t 30),none,[5]⟩,
 ⟨some 32,.fieldAddr 2 (.t 31),none,[6]⟩,
 ⟨some 33,.load false 1 (.t 32),none,[7]⟩,
 ⟨some 34,.len false (.t 33),none,[8]⟩,
 ⟨some 35,.callS 0 (.c (.fn 159 [])) [.t 29,.t 34],none,[4,9]⟩,
 ⟨some 36,.indexAddr 3 none (.t 28) (.t 35),none,[3,10]⟩,
 ⟨some 4,.move (.t 36),none,[0,1,2,3,4,5,6,7,8,9,10,11]⟩]
def qpP:List VOper:=[
 ⟨some 23,.move (.t 5),none,[]⟩,
 ⟨some 24,.bin .add (.t 23) (.c (.d (.int .i64 1))),none,[]⟩,
 ⟨some 5,.move (.t 24),none,[]⟩]
def qjZ:VCode:=(.seq (.seq (.region false 0 [0,2,3,4,5,22] qkA) (.cond (.t 22) .skip (.exit 0))) (.seq (.block 1 (.ghost (.focC 4 2 [0,2,3,4,5]) (.region true 0 [0,2,3,4,5] qmW))) (.region false 0 [0,2,3,4,5] qpP)))
def qjf:List VOper:=[
 ⟨some 37,.move (.t 0),none,[]⟩,
 ⟨some 38,.call false (.c (.fn 159 [])) [.t 37,.c (.d (.int .i64 12))],none,[]⟩]
def qje:List VOper:=[
 ⟨some 40,.bin .eql (.t 38) (.c (.d (.int .i64 0))),none,[]⟩,
 ⟨some 39,.move (.t 40),none,[]⟩]
def quT:List VOper:=[
 ⟨some 41,.move (.t 4),none,[]⟩,
 ⟨some 42,.move (.t 0),none,[]⟩,
 ⟨some 43,.buildSlice 1 (.int .i64 0) 5 [(0,.c (.d (.int .i64 (-2)))),(1,.c (.d (.int .i64 (-1)))),(2,.c (.d (.int .i64 0))),(3,.c (.d (.int .i64 5))),(4,.c (.d (.int .i64 7)))],none,[]⟩,
 ⟨some 44,.call false (.c (.fn 160 [])) [.t 42,.t 43],none,[]⟩,
 ⟨some 45,.nilCheck (.t 41),none,[]⟩,
 ⟨some 46,.fieldAddr 0 (.t 45),none,[]⟩,
 ⟨none,.store false 1 (.t 46) (.t 44),none,[]⟩]
def qg9:List VOper:=[
 ⟨some 48,.bin .eql (.t 38) (.c (.d (.int .i64 1))),none,[]⟩,
 ⟨some 47,.move (.t 48),none,[]⟩]
def qoH:List VOper:=[
 ⟨some 49,.move (.t 4),none,[]⟩,
 ⟨some 50,.move (.t 0),none,[]⟩,
 ⟨some 51,.buildSlice 1 (.int .i64 0) 4 [(0,.c (.d (.int .i64 (-1)))),(1,.c (.d (.int .i64 1))),(2,.c (.d (.int .i64 99))),(3,.c (.d (.int .i64 100)))],none,[]⟩,
 ⟨some 52,.call false (.c (.fn 160 [])) [.t 50,.t 51],none,[]⟩,
 ⟨some 53,.nilCheck (.t 49),none,[]⟩,
 ⟨some 54,.fieldAddr 1 (.t 53),none,[]⟩,
 ⟨none,.store false 1 (.t 54) (.t 52),none,[]⟩]
def qjg:List VOper:=[
 ⟨some 56,.bin .eql (.t 38) (.c (.d (.int .i64 2))),none,[]⟩,
 ⟨some 55,.move (.t 56),none,[]⟩]
def qlH:List VOper:=[
 ⟨some 57,.move (.t 4),none,[]⟩,
 ⟨some 58,.nilCheck (.t 57),none,[0]⟩,
 ⟨some 59,.fieldAddr 2 (.t 58),none,[1]⟩,
 ⟨some 60,.loadS false 1 (.t 59) 0,none,[2]⟩,
 ⟨some 61,.move (.t 0),none,[]⟩,
 ⟨some 62,.callS 0 (.c (.fn 166 [])) [.t 61,.c (.d (.int .i64 1)),.c (.d (.int .i64 2))],none,[4]⟩,
 ⟨some 63,.len false (.t 60),none,[3]⟩,
 ⟨some 64,.buildSlice 3 (.agg [.int .i64 0,.int .i64 0,.sl .nil []]) 1 [(0,.c (.d (.agg [.int .i64 0,.int .i64 0,.sl .nil []])))],none,[]⟩]
def qfX:List VOper:=[
 ⟨some 65,.append1 3 40 (.t 60) (.t 64) (.t 63) (.t 62) 66,none,[]⟩,
 ⟨some 67,.nilCheck (.t 57),none,[]⟩,
 ⟨some 68,.fieldAddr 2 (.t 67),none,[]⟩,
 ⟨none,.store false 1 (.t 68) (.t 65),none,[]⟩]
def qlG:List VOper:=[
 ⟨some 70,.bin .eql (.t 38) (.c (.d (.int .i64 3))),none,[]⟩,
 ⟨some 69,.move (.t 70),none,[]⟩]
def qoG:List VOper:=[
 ⟨some 71,.move (.t 0),none,[]⟩,
 ⟨some 72,.call false (.c (.fn 166 [])) [.t 71,.c (.d (.int .i64 3)),.c (.d (.int .i64 3))],none,[]⟩,
 ⟨none,.store false 3 (.t 2) (.t 72),none,[]⟩]
def qlF:List VOper:=[
 ⟨some 73,.load true 3 (.t 3),none,[]⟩,
 ⟨none,.store false 3 (.t 2) (.t 73),none,[]⟩]
def qDk:VFn:=⟨1,[.cell 2 true 3],(.seq (.region false 1 [0,2] quX) (.seq (.region false 4 [0,2,3] quW) (.seq (.region false 0 [0,2,3,4] quV) (.seq (.seq (.region false 0 [0,2,3,4,5] quU) (.block 0 (.loop [0,2,3,4,5] qjZ))) (.seq (.seq (.region false 0 [0,2,3,4,38] qjf) (.block 2 (.seq (.region false 0 [0,2,3,4,38,39] qje) (.cond (.t 39) (.region false 0 [2,3] quT) (.seq (.region false 0 [0,2,3,4,38,47] qg9) (.cond (.t 47) (.region false 0 [2,3] qoH) (.seq (.region false 0 [0,2,3,4,38,55] qjg) (.cond (.t 55) (.regionT 0 [2,3] qlH qfX) (.seq (.region false 0 [0,2,3,69] qlG) (.cond (.t 69) (.seq (.region false 0 [2] qoG) .ret) .skip)))))))))) (.seq (.ghost (.frzB 3 2 [2]) (.region false 0 [2] qlF)) .ret))))))⟩
def qzV:List VOper:=[
 ⟨some 4,.move (.c (.d (.bool false))),none,[]⟩]
def qzU:List VOper:=[
 ⟨some 5,.move (.t 0),none,[]⟩,
 ⟨some 6,.move (.t 1),none,[]⟩,
 ⟨some 7,.call false (.c (.fn 159 [])) [.t 5,.t 6],none,[]⟩,
 ⟨some 8,.bin .eql (.t 7) (.c (.d (.int .i64 0))),none,[]⟩,
 ⟨some 4,.move (.t 8),none,[]⟩]
def qDj:VFn:=⟨2,[.tmp 4],(.seq (.region false 0 [0,1] qzV) (.seq (.region false 0 [4] qzU) .ret))⟩
def qzT:List VOper:=[
 ⟨some 4,.alloc 0 [.int .i64 0,.int .i64 0,.sl .nil []],none,[]⟩]
def qzS:List VOper:=[
 ⟨some 5,.call true (.c (.fn 155 [])) [],none,[]⟩,
 ⟨some 6,.move (.t 0),none,[]⟩,
 ⟨some 7,.move (.t 1),none,[]⟩,
 ⟨some 8,.call false (.c (.fn 166 [])) [.t 6,.c (.d (.int .i64 2)),.t 7],none,[]⟩,
 ⟨some 9,.call true (.c (.fn 153 [])) [.t 5,.t 8],none,[]⟩,
 ⟨none,.store false 3 (.t 4) (.t 9),none,[]⟩]
def qDi:VFn:=⟨2,[.cell 4 true 3],(.seq (.region false 1 [0,1,4] qzT) (.seq (.region false 0 [4] qzS) .ret))⟩
def qzR:List VOper:=[
 ⟨some 4,.alloc 0 [.int .i64 0,.int .i64 0,.sl .nil []],none,[]⟩]
def qzQ:List VOper:=[
 ⟨some 5,.move (.t 0),none,[]⟩,
 ⟨some 6,.move (.t 1),none,[]⟩,
 ⟨some 7,.build [.int .i64 0,.int .i64 0,.sl .nil []] [(0,1,.t 5),(2,1,.t 6)],none,[]⟩,
 ⟨none,.store false 3 (.t 4) (.t 7),none,[]⟩]
def qDh:VFn:=⟨2,[.cell 4 true 3],(.seq (.region false 1 [0,1,4] qzR) (.seq (.region false 0 [4] qzQ) .ret))⟩
def quS:List VOper:=[
 ⟨some 2,.move (.c (.d (.int .i64 0))),none,[]⟩]
def quR:List VOper:=[
 ⟨some 4,.move (.t 0),none,[]⟩,
 ⟨some 5,.move (.t 0),none,[]⟩,
 ⟨some 6,.nilCheck (.t 5),none,[]⟩,
 ⟨some 7,.fieldAddr 2 (.t 6),none,[]⟩,
 ⟨some 8,.load false 1 (.t 7),none,[]⟩,
 ⟨some 9,.bin .mul (.t 8) (.c (.d (.int .i64 6364136223846793005))),none,[]⟩,
 ⟨some 10,.bin .add (.t 9) (.c (.d (.int .i64 1442695040888963407))),none,[]⟩,
 ⟨some 11,.nilCheck (.t 4),none,[]⟩,
 ⟨some 12,.fieldAddr 2 (.t 11),none,[]⟩,
 ⟨none,.store false 1 (.t 12) (.t 10),none,[]⟩]
def quQ:List VOper:=[
 ⟨some 13,.move (.t 0),none,[]⟩,
 ⟨some 14,.nilCheck (.t 13),none,[0]⟩,
 ⟨some 15,.fieldAddr 2 (.t 14),none,[1]⟩,
 ⟨some 16,.load false 1 (.t 15),none,[2]⟩,
 ⟨some 17,.bin .shr (.t 16) (.c (.d (.int .u64 33))),none,[3]⟩,
 ⟨some 18,.move (.t 0),none,[]⟩,
 ⟨some 19,.nilCheck (.t 18),none,[5]⟩,
 ⟨some 20,.fieldAddr 2 (.t 19),none,[6]⟩,
 ⟨some 21,.load false 1 (.t 20),none,[7]⟩,
 ⟨some 22,.bin .shr (.t 21) (.c (.d (.int .u64 45))),none,[8]⟩,
 ⟨some 23,.bin .xor (.t 17) (.t 22),none,[4,9]⟩,
 ⟨some 24,.bin .and (.t 23) (.c (.d (.int .i64 255))),none,[10]⟩,
 ⟨some 3,.move (.t 24),none,[0,1,2,3,4,5,6,7,8,9,10,11]⟩]
def quP:List VOper:=[
 ⟨some 25,.move (.t 0),none,[]⟩,
 ⟨some 26,.nilCheck (.t 25),none,[0]⟩,
 ⟨some 27,.fieldAddr 1 (.t 26),none,[1]⟩,
 ⟨some 28,.load false 1 (.t 27),none,[2]⟩,
 ⟨some 29,.move (.t 0),none,[]⟩,
 ⟨some 30,.nilCheck (.t 29),none,[4]⟩,
 ⟨some 31,.fieldAddr 0 (.t 30),none,[5]⟩,
 ⟨some 32,.load false 1 (.t 31),none,[6]⟩,
 ⟨some 33,.len false (.t 32),none,[7]⟩,
 ⟨some 34,.bin .lss (.t 28) (.t 33),none,[3,8]⟩]
def quO:List VOper:=[
 ⟨some 35,.move (.t 3),none,[]⟩,
 ⟨some 36,.move (.t 0),none,[]⟩,
 ⟨some 37,.nilCheck (.t 36),none,[1]⟩,
 ⟨some 38,.fieldAddr 0 (.t 37),none,[2]⟩,
 ⟨some 39,.load false 1 (.t 38),none,[3]⟩,
 ⟨some 40,.move (.t 0),none,[]⟩,
 ⟨some 41,.nilCheck (.t 40),none,[5]⟩,
 ⟨some 42,.fieldAddr 1 (.t 41),none,[6]⟩,
 ⟨some 43,.load false 1 (.t 42),none,[7]⟩,
 ⟨some 44,.indexAddr 1 none (.t 39) (.t 43),none,[4,8]⟩,
 ⟨some 45,.load false 1 (.t 44),none,[9]⟩,
 ⟨some 46,.conv (.kind .i64) (.t 45),none,[10]⟩,
 ⟨some 47,.bin .add (.t 35) (.t 46),none,[0,11]⟩,
 ⟨some 48,.bin .and (.t 47) (.c (.d (.int .i64 255))),none,[12]⟩,
 ⟨some 3,.move (.t 48),none,[0,1,2,3,4,5,6,7,8,9,10,11,12,13]⟩]
def quN:List VOper:=[
 ⟨some 49,.move (.t 0),none,[]⟩,
 ⟨some 50,.move (.t 0),none,[]⟩,
 ⟨some 51,.nilCheck (.t 50),none,[]⟩,
 ⟨some 52,.fieldAddr 1 (.t 51),none,[]⟩,
 ⟨some 53,.load false 1 (.t 52),none,[]⟩,
 ⟨some 54,.bin .add (.t 53) (.c (.d (.int .i64 1))),none,[]⟩,
 ⟨some 55,.nilCheck (.t 49),none,[]⟩,
 ⟨some 56,.fieldAddr 1 (.t 55),none,[]⟩,
 ⟨none,.store false 1 (.t 56) (.t 54),none,[]⟩]
def quM:List VOper:=[
 ⟨some 57,.move (.t 3),none,[]⟩,
 ⟨some 2,.move (.t 57),none,[]⟩]
def qBo:VFn:=⟨1,[.tmp 2],(.seq (.region false 0 [0] quS) (.seq (.region false 0 [0] quR) (.seq (.region true 0 [0,3] quQ) (.seq (.seq (.region true 0 [0,3,34] quP) (.cond (.t 34) (.seq (.region true 0 [0,3] quO) (.region false 0 [3] quN)) .skip)) (.seq (.region false 0 [2] quM) .ret)))))⟩
def quL:List VOper:=[
 ⟨some 6,.alloc 0 [.int .i64 0,.int .i64 0,.sl .nil []],none,[]⟩]
def qkz:List VOper:=[
 ⟨some 9,.move (.t 1),none,[]⟩,
 ⟨some 10,.bin .eql (.t 9) (.c (.d (.int .i64 0))),none,[]⟩,
 ⟨some 11,.move (.t 10),none,[]⟩,
 ⟨some 12,.move (.t 0),some (11,false),[]⟩,
 ⟨some 13,.call false (.c (.fn 162 [])) [.t 12,.c (.d (.int .i64 3))],some (11,false),[]⟩,
 ⟨some 14,.pick (.t 11) (.c (.d (.bool true))) (.t 13),none,[]⟩]
def qmV:List VOper:=[
 ⟨some 15,.move (.t 2),none,[]⟩,
 ⟨some 16,.bin .gtr (.t 15) (.c (.d (.int .i64 0))),none,[]⟩,
 ⟨some 17,.move (.t 16),none,[]⟩,
 ⟨some 18,.move (.t 0),some (17,true),[]⟩,
 ⟨some 19,.call false (.c (.fn 162 [])) [.t 18,.c (.d (.int .i64 2))],some (17,true),[]⟩,
 ⟨some 20,.pick (.t 17) (.t 19) (.c (.d (.bool false))),none,[]⟩]
def quK:List VOper:=[
 ⟨some 21,.move (.t 0),none,[]⟩,
 ⟨some 22,.move (.t 2),none,[]⟩,
 ⟨some 23,.call false (.c (.fn 159 [])) [.t 21,.t 22],none,[]⟩,
 ⟨some 24,.call true (.c (.fn 147 [])) [.t 23],none,[]⟩,
 ⟨none,.store false 3 (.t 6) (.t 24),none,[]⟩]
def qpO:List VOper:=[
 ⟨some 25,.move (.t 0),none,[]⟩,
 ⟨some 26,.call false (.c (.fn 159 [])) [.t 25,.c (.d (.int .i64 2))],none,[]⟩,
 ⟨some 27,.bin .add (.c (.d (.int .i64 1))) (.t 26),none,[]⟩,
 ⟨some 28,.build [.int .i64 0,.int .i64 0,.sl .nil []] [(0,1,.t 27)],none,[]⟩,
 ⟨none,.store false 3 (.t 6) (.t 28),none,[]⟩]
def qpN:List VOper:=[
 ⟨some 29,.move (.t 0),none,[]⟩,
 ⟨some 30,.buildSlice 1 (.int .i64 0) 5 [(0,.c (.d (.int .i64 3))),(1,.c (.d (.int .i64 4))),(2,.c (.d (.int .i64 5))),(3,.c (.d (.int .i64 5))),(4,.c (.d (.int .i64 6)))],none,[]⟩,
 ⟨some 31,.call false (.c (.fn 160 [])) [.t 29,.t 30],none,[]⟩,
 ⟨some 7,.move (.t 31),none,[]⟩]
def qpM:List VOper:=[
 ⟨some 32,.move (.t 0),none,[]⟩,
 ⟨some 33,.move (.t 1),none,[]⟩,
 ⟨some 34,.bin .sub (.t 33) (.c (.d (.int .i64 1))),none,[]⟩,
 ⟨some 35,.move (.t 2),none,[]⟩,
 ⟨some 36,.call false (.c (.fn 166 [])) [.t 32,.t 34,.t 35],none,[]⟩,
 ⟨some 37,.buildSlice 3 (.agg [.int .i64 0,.int .i64 0,.sl .nil []]) 1 [(0,.t 36)],none,[]⟩,
 ⟨some 8,.move (.t 37),none,[]⟩]
def qpL:List VOper:=[
 ⟨some 38,.move (.t 7),none,[]⟩,
 ⟨some 39,.bin .gtr (.t 38) (.c (.d (.int .i64 3))),none,[]⟩]
def qpK:List VOper:=[
 ⟨some 40,.move (.t 8),none,[]⟩,
 ⟨some 41,.move (.t 0),none,[]⟩,
 ⟨some 42,.move (.t 1),none,[]⟩,
 ⟨some 43,.bin .sub (.t 42) (.c (.d (.int .i64 1))),none,[]⟩,
 ⟨some 44,.move (.t 2),none,[]⟩,
 ⟨some 45,.call false (.c (.fn 166 [])) [.t 41,.t 43,.t 44],none,[]⟩,
 ⟨some 46,.buildSlice 3 (.agg [.int .i64 0,.int .i64 0,.sl .nil []]) 1 [(0,.t 45)],none,[]⟩,
 ⟨some 47,.append 3 40 (.t 40) (.t 46),none,[]⟩,
 ⟨some 8,.move (.t 47),none,[]⟩]
def qpJ:List VOper:=[
 ⟨some 48,.move (.t 7),none,[]⟩,
 ⟨some 49,.move (.t 8),none,[]⟩,
 ⟨some 50,.call true (.c (.fn 164 [])) [.t 48,.t 49],none,[]⟩,
 ⟨none,.store false 3 (.t 6) (.t 50),none,[]⟩]
def qDg:VFn:=⟨3,[.cell 6 true 3],(.seq (.region false 1 [0,1,2,6] quL) (.seq (.seq (.region false 0 [0,1,2,6,14] qkz) (.cond (.t 14) (.seq (.seq (.region false 0 [0,2,6,20] qmV) (.cond (.t 20) (.seq (.region false 0 [6] quK) .ret) .skip)) (.seq (.region false 0 [6] qpO) .ret)) .skip)) (.seq (.region false 0 [0,1,2,6,7] qpN) (.seq (.region false 0 [0,1,2,6,7,8] qpM) (.seq (.seq (.region false 0 [0,1,2,6,7,8,39] qpL) (.cond (.t 39) (.region false 0 [6,7,8] qpK) .skip)) (.seq (.region false 0 [6] qpJ) .ret))))))⟩
def qhQ:List VOper:=[
 ⟨some 3,.box 0 (.t 1),none,[]⟩,
 ⟨some 4,.alloc 1 [.int .i64 0,.int .i64 0,.sl .nil []],none,[]⟩]
def qhP:List VOper:=[
 ⟨some 8,.buildSlice 3 (.agg [.int .i64 0,.int .i64 0,.sl .nil []]) 0 [],none,[]⟩,
 ⟨some 5,.move (.t 8),none,[]⟩]
def qhO:List VOper:=[
 ⟨some 9,.fieldAddr 2 (.t 3),none,[]⟩,
 ⟨some 10,.load false 1 (.t 9),none,[]⟩,
 ⟨some 11,.len false (.t 10),none,[]⟩,
 ⟨some 12,.move (.c (.d (.int .i64 0))),none,[]⟩]
def qmU:List VOper:=[
 ⟨some 13,.bin .lss (.t 12) (.t 11),none,[]⟩]
def qmT:List VOper:=[
 ⟨some 14,.indexAddr 3 none (.t 10) (.t 12),none,[]⟩,
 ⟨some 15,.load true 3 (.t 14),none,[]⟩,
 ⟨some 7,.alloc 0 [.int .i64 0,.int .i64 0,.sl .nil []],none,[]⟩,
 ⟨none,.store false 3 (.t 7) (.t 15),none,[]⟩]
def qmS:List VOper:=[
 ⟨some 16,.move (.t 0),none,[]⟩,
 ⟨some 17,.load true 3 (.t 7),none,[]⟩,
 ⟨some 18,.call true (.c (.fn 169 [])) [.t 16,.t 17],none,[]⟩,
 ⟨none,.store false 3 (.t 7) (.t 18),none,[]⟩]
def qmR:List VOper:=[
 ⟨some 19,.move (.t 0),none,[]⟩,
 ⟨some 20,.fieldAddr 0 (.t 3),none,[]⟩,
 ⟨some 21,.load false 1 (.t 20),none,[]⟩,
 ⟨some 22,.call true (.c (.fn 34 [])) [.t 19,.t 21],none,[]⟩,
 ⟨some 23,.move (.t 22),none,[]⟩,
 ⟨some 24,.fieldAddr 0 (.t 7),some (23,true),[]⟩,
 ⟨some 25,.load false 1 (.t 24),some (23,true),[]⟩,
 ⟨some 26,.fieldAddr 0 (.t 3),some (23,true),[]⟩,
 ⟨some 27,.load false 1 (.t 26),some (23,true),[]⟩,
 ⟨some 28,.bin .eql (.t 25) (.t 27),some (23,true),[]⟩,
 ⟨some 29,.pick (.t 23) (.t 28) (.c (.d (.bool false))),none,[]⟩]
def qmQ:List VOper:=[
 ⟨some 30,.move (.t 5),none,[]⟩,
 ⟨some 31,.fieldAddr 2 (.t 7),none,[]⟩,
 ⟨some 32,.load false 1 (.t 31),none,[]⟩,
 ⟨some 33,.append 3 40 (.t 30) (.t 32),none,[]⟩,
 ⟨some 5,.move (.t 33),none,[]⟩]
def qmP:List VOper:=[
 ⟨some 34,.move (.t 5),none,[]⟩,
 ⟨some 35,.load true 3 (.t 7),none,[]⟩,
 ⟨some 36,.buildSlice 3 (.agg [.int .i64 0,.int .i64 0,.sl .nil []]) 1 [(0,.t 35)],none,[]⟩,
 ⟨some 37,.append 3 40 (.t 34) (.t 36),none,[]⟩,
 ⟨some 5,.move (.t 37),none,[]⟩]
def qmO:List VOper:=[
 ⟨some 38,.bin .add (.t 12) (.c (.d (.int .i64 1))),none,[]⟩,
 ⟨some 12,.move (.t 38),none,[]⟩]
def qgO:VCode:=(.seq (.region false 0 [0,3,4,5,10,11,12,13] qmU) (.seq (.cond (.t 13) .skip (.exit 0)) (.seq (.block 1 (.seq (.region false 1 [0,3,4,5,7,10,11,12] qmT) (.seq (.region false 0 [0,3,4,5,7,10,11,12] qmS) (.seq (.region false 0 [0,3,4,5,7,10,11,12,29] qmR) (.cond (.t 29) (.region false 0 [0,3,4,5,10,11,12] qmQ) (.region false 0 [0,3,4,5,10,11,12] qmP)))))) (.region false 0 [0,3,4,5,10,11,12] qmO))))
def qd9:List VOper:=[
 ⟨some 39,.move (.t 0),none,[]⟩,
 ⟨some 40,.fieldAddr 0 (.t 3),none,[]⟩,
 ⟨some 41,.load false 1 (.t 40),none,[]⟩,
 ⟨some 42,.call true (.c (.fn 34 [])) [.t 39,.t 41],none,[]⟩]
def qjd:List VOper:=[
 ⟨some 43,.move (.t 5),none,[]⟩,
 ⟨some 44,.call false (.c (.fn 170 [])) [.t 43,.c (.fn 6 [])],none,[]⟩]
def qjc:List VOper:=[
 ⟨some 45,.move (.t 5),none,[]⟩,
 ⟨some 46,.fieldAddr 2 (.t 3),none,[]⟩,
 ⟨none,.store false 1 (.t 46) (.t 45),none,[]⟩]
def qjb:List VOper:=[
 ⟨some 47,.load true 3 (.t 3),none,[]⟩,
 ⟨none,.store false 3 (.t 4) (.t 47),none,[]⟩]
def qJQ:VFn:=⟨2,[.cell 4 true 3],(.seq (.region false 2 [0,3,4] qhQ) (.seq (.region false 0 [0,3,4,5] qhP) (.seq (.seq (.region false 0 [0,3,4,5,10,11,12] qhO) (.block 0 (.loop [0,3,4,5,10,11,12] qgO))) (.seq (.seq (.region false 0 [3,4,5,42] qd9) (.cond (.t 42) (.region false 0 [3,4,5] qjd) .skip)) (.seq (.region false 0 [3,4] qjc) (.seq (.region false 0 [4] qjb) .ret))))))⟩
def quJ:List VOper:=[
 ⟨some 4,.move (.t 0),none,[]⟩,
 ⟨some 5,.move (.t 0),none,[]⟩,
 ⟨some 6,.len false (.t 5),none,[]⟩,
 ⟨some 7,.move (.t 1),none,[]⟩,
 ⟨some 8,.call false (.c (.fn 171 [])) [.t 4,.t 6,.t 7],none,[]⟩]
def qzv:VFn:=⟨2,[],(.region false 0 [] quJ)⟩
def quI:List VOper:=[
 ⟨some 6,.move (.c (.d (.int .i64 20))),none,[]⟩]
def quH:List VOper:=[
 ⟨some 10,.move (.t 6),none,[]⟩,
 ⟨some 7,.move (.c (.d (.int .i64 0))),none,[]⟩,
 ⟨some 8,.move (.t 10),none,[]⟩]
def qpI:List VOper:=[
 ⟨some 11,.move (.t 8),none,[]⟩,
 ⟨some 12,.move (.t 1),none,[]⟩,
 ⟨some 13,.bin .leq (.t 11) (.t 12),none,[]⟩]
def qzP:List VOper:=[
 ⟨some 14,.move (.t 0),none,[]⟩,
 ⟨some 15,.move (.t 7),none,[]⟩,
 ⟨some 16,.move (.t 8),none,[]⟩,
 ⟨some 17,.move (.t 2),none,[]⟩,
 ⟨some 18,.call false (.c (.fn 172 [])) [.t 14,.t 15,.t 16,.t 17],none,[]⟩]
def qzO:List VOper:=[
 ⟨some 19,.move (.t 8),none,[]⟩,
 ⟨some 7,.move (.t 19),none,[]⟩]
def qzN:List VOper:=[
 ⟨some 20,.move (.t 8),none,[]⟩,
 ⟨some 21,.move (.t 6),none,[]⟩,
 ⟨some 22,.bin .add (.t 20) (.t 21),none,[]⟩,
 ⟨some 8,.move (.t 22),none,[]⟩]
def qjY:VCode:=(.seq (.seq (.region false 0 [0,1,2,6,7,8,13] qpI) (.cond (.t 13) .skip (.exit 0))) (.block 1 (.seq (.region false 0 [0,1,2,6,8] qzP) (.seq (.region false 0 [0,1,2,6,7,8] qzO) (.region false 0 [0,1,2,6,7,8] qzN)))))
def quD:List VOper:=[
 ⟨some 23,.move (.t 0),none,[]⟩,
 ⟨some 24,.move (.t 7),none,[]⟩,
 ⟨some 25,.move (.t 1),none,[]⟩,
 ⟨some 26,.move (.t 2),none,[]⟩,
 ⟨some 27,.call false (.c (.fn 172 [])) [.t 23,.t 24,.t 25,.t 26],none,[]⟩]
def qmN:List VOper:=[
 ⟨some 28,.move (.t 6),none,[]⟩,
 ⟨some 29,.move (.t 1),none,[]⟩,
 ⟨some 30,.bin .lss (.t 28) (.t 29),none,[]⟩]
def quC:List VOper:=[
 ⟨some 31,.move (.t 6),none,[]⟩,
 ⟨some 32,.bin .mul (.c (.d (.int .i64 2))) (.t 31),none,[]⟩,
 ⟨some 7,.move (.c (.d (.int .i64 0))),none,[]⟩,
 ⟨some 8,.move (.t 32),none,[]⟩]
def quB:List VOper:=[
 ⟨some 33,.move (.t 8),none,[]⟩,
 ⟨some 34,.move (.t 1),none,[]⟩,
 ⟨some 35,.bin .leq (.t 33) (.t 34),none,[]⟩]
def quG:List VOper:=[
 ⟨some 36,.move (.t 0),none,[]⟩,
 ⟨some 37,.move (.t 7),none,[]⟩,
 ⟨some 38,.move (.t 7),none,[]⟩,
 ⟨some 39,.move (.t 6),none,[]⟩,
 ⟨some 40,.bin .add (.t 38) (.t 39),none,[]⟩,
 ⟨some 41,.move (.t 8),none,[]⟩,
 ⟨some 42,.move (.t 2),none,[]⟩,
 ⟨some 43,.call false (.c (.fn 173 [])) [.t 36,.t 37,.t 40,.t 41,.t 42],none,[]⟩]
def quF:List VOper:=[
 ⟨some 44,.move (.t 8),none,[]⟩,
 ⟨some 7,.move (.t 44),none,[]⟩]
def quE:List VOper:=[
 ⟨some 45,.move (.t 8),none,[]⟩,
 ⟨some 46,.move (.t 6),none,[]⟩,
 ⟨some 47,.bin .mul (.c (.d (.int .i64 2))) (.t 46),none,[]⟩,
 ⟨some 48,.bin .add (.t 45) (.t 47),none,[]⟩,
 ⟨some 8,.move (.t 48),none,[]⟩]
def qnP:VCode:=(.seq (.seq (.region false 0 [0,1,2,6,7,8,35] quB) (.cond (.t 35) .skip (.exit 4))) (.block 5 (.seq (.region false 0 [0,1,2,6,8] quG) (.seq (.region false 0 [0,1,2,6,7,8] quF) (.region false 0 [0,1,2,6,7,8] quE)))))
def qja:List VOper:=[
 ⟨some 49,.move (.t 7),none,[]⟩,
 ⟨some 50,.move (.t 6),none,[]⟩,
 ⟨some 51,.bin .add (.t 49) (.t 50),none,[]⟩,
 ⟨some 9,.move (.t 51),none,[]⟩]
def qi9:List VOper:=[
 ⟨some 52,.move (.t 9),none,[]⟩,
 ⟨some 53,.move (.t 1),none,[]⟩,
 ⟨some 54,.bin .lss (.t 52) (.t 53),none,[]⟩]
def qi8:List VOper:=[
 ⟨some 55,.move (.t 0),none,[]⟩,
 ⟨some 56,.move (.t 7),none,[]⟩,
 ⟨some 57,.move (.t 9),none,[]⟩,
 ⟨some 58,.move (.t 1),none,[]⟩,
 ⟨some 59,.move (.t 2),none,[]⟩,
 ⟨some 60,.call false (.c (.fn 173 [])) [.t 55,.t 56,.t 57,.t 58,.t 59],none,[]⟩]
def qi7:List VOper:=[
 ⟨some 61,.move (.t 6),none,[]⟩,
 ⟨some 62,.bin .mul (.t 61) (.c (.d (.int .i64 2))),none,[]⟩,
 ⟨some 6,.move (.t 62),none,[]⟩]
def qib:VCode:=(.seq (.seq (.region false 0 [0,1,2,6,30] qmN) (.cond (.t 30) .skip (.exit 2))) (.block 3 (.seq (.region false 0 [0,1,2,6,7,8] quC) (.seq (.block 4 (.loop [0,1,2,6,7,8] qnP)) (.seq (.seq (.region false 0 [0,1,2,6,7,9] qja) (.seq (.region false 0 [0,1,2,6,7,9,54] qi9) (.cond (.t 54) (.region false 0 [0,1,2,6] qi8) .skip))) (.region false 0 [0,1,2,6] qi7))))))
def qzu:VFn:=⟨3,[],(.seq (.region false 0 [0,1,2,6] quI) (.seq (.region false 0 [0,1,2,6,7,8] quH) (.seq (.block 0 (.loop [0,1,2,6,7,8] qjY)) (.seq (.region false 0 [0,1,2,6] quD) (.block 2 (.loop [0,1,2,6] qib))))))⟩
def qmM:List VOper:=[
 ⟨some 10,.move (.t 1),none,[]⟩,
 ⟨some 11,.bin .add (.t 10) (.c (.d (.int .i64 1))),none,[]⟩,
 ⟨some 8,.move (.t 11),none,[]⟩]
def qky:List VOper:=[
 ⟨some 12,.move (.t 8),none,[]⟩,
 ⟨some 13,.move (.t 2),none,[]⟩,
 ⟨some 14,.bin .lss (.t 12) (.t 13),none,[]⟩]
def quz:List VOper:=[
 ⟨some 17,.move (.t 8),none,[]⟩,
 ⟨some 9,.move (.t 17),none,[]⟩]
def qpH:List VOper:=[
 ⟨some 18,.move (.t 9),none,[]⟩,
 ⟨some 19,.move (.t 1),none,[]⟩,
 ⟨some 20,.bin .gtr (.t 18) (.t 19),none,[0,1]⟩,
 ⟨some 21,.move (.t 20),none,[2]⟩,
 ⟨some 22,.move (.t 3),some (21,true),[3]⟩,
 ⟨some 23,.move (.t 0),some (21,true),[3]⟩,
 ⟨some 24,.move (.t 9),some (21,true),[3]⟩,
 ⟨some 25,.indexAddr 3 none (.t 23) (.t 24),some (21,true),[3,5,6]⟩,
 ⟨some 26,.load true 3 (.t 25),some (21,true),[3,7]⟩,
 ⟨some 27,.move (.t 0),some (21,true),[3]⟩,
 ⟨some 28,.move (.t 9),some (21,true),[3]⟩,
 ⟨some 29,.bin .sub (.t 28) (.c (.d (.int .i64 1))),some (21,true),[3,10]⟩,
 ⟨some 30,.indexAddr 3 none (.t 27) (.t 29),some (21,true),[3,9,11]⟩,
 ⟨some 31,.load true 3 (.t 30),some (21,true),[3,12]⟩,
 ⟨some 32,.call false (.t 22) [.t 26,.t 31],some (21,true),[3,4,8,13]⟩,
 ⟨some 33,.bin .lss (.t 32) (.c (.d (.int .i64 0))),some (21,true),[3,14]⟩,
 ⟨some 34,.pick (.t 21) (.t 33) (.c (.d (.bool false))),none,[3,15]⟩]
def qpG:List VOper:=[
 ⟨some 37,.move (.t 0),none,[]⟩,
 ⟨some 38,.move (.t 9),none,[]⟩,
 ⟨some 39,.move (.t 0),none,[]⟩,
 ⟨some 40,.move (.t 9),none,[]⟩,
 ⟨some 41,.bin .sub (.t 40) (.c (.d (.int .i64 1))),none,[3]⟩,
 ⟨some 42,.move (.t 0),none,[]⟩,
 ⟨some 43,.move (.t 9),none,[]⟩,
 ⟨some 44,.bin .sub (.t 43) (.c (.d (.int .i64 1))),none,[6]⟩,
 ⟨some 45,.indexAddr 3 none (.t 42) (.t 44),none,[5,7]⟩,
 ⟨some 46,.load true 3 (.t 45),none,[8]⟩,
 ⟨some 47,.move (.t 0),none,[]⟩,
 ⟨some 48,.move (.t 9),none,[]⟩,
 ⟨some 49,.indexAddr 3 none (.t 47) (.t 48),none,[10,11]⟩,
 ⟨some 50,.load true 3 (.t 49),none,[12]⟩,
 ⟨some 51,.indexAddr 3 none (.t 37) (.t 38),none,[0,1,5,6,7,8,9,13]⟩,
 ⟨none,.store false 3 (.t 51) (.t 46),none,[0,1,5,6,7,8,9,13,14]⟩,
 ⟨some 52,.indexAddr 3 none (.t 39) (.t 41),none,[0,1,2,3,4,5,6,7,8,9,10,11,12,13,14,15]⟩,
 ⟨none,.store false 3 (.t 52) (.t 50),none,[0,1,2,3,4,5,6,7,8,9,10,11,12,13,14,15,16]⟩]
def quy:List VOper:=[
 ⟨some 35,.move (.t 9),none,[]⟩,
 ⟨some 36,.bin .sub (.t 35) (.c (.d (.int .i64 1))),none,[]⟩,
 ⟨some 9,.move (.t 36),none,[]⟩]
def qnO:VCode:=(.seq (.seq (.region true 0 [0,1,2,3,8,9,34] qpH) (.cond (.t 34) .skip (.exit 2))) (.seq (.block 3 (.region true 0 [0,1,2,3,8,9] qpG)) (.region false 0 [0,1,2,3,8,9] quy)))
def quA:List VOper:=[
 ⟨some 15,.move (.t 8),none,[]⟩,
 ⟨some 16,.bin .add (.t 15) (.c (.d (.int .i64 1))),none,[]⟩,
 ⟨some 8,.move (.t 16),none,[]⟩]
def qia:VCode:=(.seq (.seq (.region false 0 [0,1,2,3,8,14] qky) (.cond (.t 14) .skip (.exit 0))) (.seq (.block 1 (.seq (.region false 0 [0,1,2,3,8,9] quz) (.block 2 (.loop [0,1,2,3,8,9] qnO)))) (.region false 0 [0,1,2,3,8] quA)))
def qw0:VFn:=⟨4,[],(.seq (.region false 0 [0,1,2,3,8] qmM) (.block 0 (.loop [0,1,2,3,8] qia)))⟩
def qmL:List VOper:=[
 ⟨some 25,.move (.t 2),none,[]⟩,
 ⟨some 26,.move (.t 1),none,[]⟩,
 ⟨some 27,.bin .sub (.t 25) (.t 26),none,[]⟩,
 ⟨some 28,.bin .eql (.t 27) (.c (.d (.int .i64 1))),none,[]⟩]
def qzM:List VOper:=[
 ⟨some 29,.move (.t 2),none,[]⟩,
 ⟨some 10,.move (.t 29),none,[]⟩]
def qzL:List VOper:=[
 ⟨some 30,.move (.t 3),none,[]⟩,
 ⟨some 11,.move (.t 30),none,[]⟩]
def qpF:List VOper:=[
 ⟨some 31,.move (.t 10),none,[]⟩,
 ⟨some 32,.move (.t 11),none,[]⟩,
 ⟨some 33,.bin .lss (.t 31) (.t 32),none,[]⟩]
def qun:List VOper:=[
 ⟨some 34,.move (.t 10),none,[]⟩,
 ⟨some 35,.move (.t 11),none,[]⟩,
 ⟨some 36,.bin .add (.t 34) (.t 35),none,[]⟩,
 ⟨some 37,.conv (.kind .u64) (.t 36),none,[]⟩,
 ⟨some 38,.bin .shr (.t 37) (.c (.d (.int .u64 1))),none,[]⟩,
 ⟨some 39,.conv (.kind .i64) (.t 38),none,[]⟩,
 ⟨some 12,.move (.t 39),none,[]⟩]
def qpE:List VOper:=[
 ⟨some 40,.move (.t 4),none,[]⟩,
 ⟨some 41,.move (.t 0),none,[]⟩,
 ⟨some 42,.move (.t 12),none,[]⟩,
 ⟨some 43,.indexAddr 3 none (.t 41) (.t 42),none,[1,2]⟩,
 ⟨some 44,.load true 3 (.t 43),none,[3]⟩,
 ⟨some 45,.move (.t 0),none,[]⟩,
 ⟨some 46,.move (.t 1),none,[]⟩,
 ⟨some 47,.indexAddr 3 none (.t 45) (.t 46),none,[5,6]⟩,
 ⟨some 48,.load true 3 (.t 47),none,[7]⟩,
 ⟨some 49,.call false (.t 40) [.t 44,.t 48],none,[0,4,8]⟩,
 ⟨some 50,.bin .lss (.t 49) (.c (.d (.int .i64 0))),none,[9]⟩]
def qum:List VOper:=[
 ⟨some 51,.move (.t 12),none,[]⟩,
 ⟨some 52,.bin .add (.t 51) (.c (.d (.int .i64 1))),none,[]⟩,
 ⟨some 10,.move (.t 52),none,[]⟩]
def qul:List VOper:=[
 ⟨some 53,.move (.t 12),none,[]⟩,
 ⟨some 11,.move (.t 53),none,[]⟩]
def qkW:VCode:=(.seq (.seq (.region false 0 [0,1,4,10,11,33] qpF) (.cond (.t 33) .skip (.exit 0))) (.block 1 (.seq (.region false 0 [0,1,4,10,11,12] qun) (.seq (.region true 0 [0,1,4,10,11,12,50] qpE) (.cond (.t 50) (.region false 0 [0,1,4,10,11] qum) (.region false 0 [0,1,4,10,11] qul))))))
def qzK:List VOper:=[
 ⟨some 54,.move (.t 1),none,[]⟩,
 ⟨some 13,.move (.t 54),none,[]⟩]
def quk:List VOper:=[
 ⟨some 55,.move (.t 13),none,[]⟩,
 ⟨some 56,.move (.t 10),none,[]⟩,
 ⟨some 57,.bin .sub (.t 56) (.c (.d (.int .i64 1))),none,[]⟩,
 ⟨some 58,.bin .lss (.t 55) (.t 57),none,[]⟩]
def qlE:List VOper:=[
 ⟨some 61,.move (.t 0),none,[]⟩,
 ⟨some 62,.move (.t 13),none,[]⟩,
 ⟨some 63,.move (.t 0),none,[]⟩,
 ⟨some 64,.move (.t 13),none,[]⟩,
 ⟨some 65,.bin .add (.t 64) (.c (.d (.int .i64 1))),none,[3]⟩,
 ⟨some 66,.move (.t 0),none,[]⟩,
 ⟨some 67,.move (.t 13),none,[]⟩,
 ⟨some 68,.bin .add (.t 67) (.c (.d (.int .i64 1))),none,[6]⟩,
 ⟨some 69,.indexAddr 3 none (.t 66) (.t 68),none,[5,7]⟩,
 ⟨some 70,.load true 3 (.t 69),none,[8]⟩,
 ⟨some 71,.move (.t 0),none,[]⟩,
 ⟨some 72,.move (.t 13),none,[]⟩,
 ⟨some 73,.indexAddr 3 none (.t 71) (.t 72),none,[10,11]⟩,
 ⟨some 74,.load true 3 (.t 73),none,[12]⟩,
 ⟨some 75,.indexAddr 3 none (.t 61) (.t 62),none,[0,1,5,6,7,8,9,13]⟩,
 ⟨none,.store false 3 (.t 75) (.t 70),none,[0,1,5,6,7,8,9,13,14]⟩,
 ⟨some 76,.indexAddr 3 none (.t 63) (.t 65),none,[0,1,2,3,4,5,6,7,8,9,10,11,12,13,14,15]⟩,
 ⟨none,.store false 3 (.t 76) (.t 74),none,[0,1,2,3,4,5,6,7,8,9,10,11,12,13,14,15,16]⟩]
def qux:List VOper:=[
 ⟨some 59,.move (.t 13),none,[]⟩,
 ⟨some 60,.bin .add (.t 59) (.c (.d (.int .i64 1))),none,[]⟩,
 ⟨some 13,.move (.t 60),none,[]⟩]
def qnN:VCode:=(.seq (.seq (.region false 0 [0,10,13,58] quk) (.cond (.t 58) .skip (.exit 2))) (.seq (.block 3 (.region true 0 [0,10,13] qlE)) (.region false 0 [0,10,13] qux)))
def qlD:List VOper:=[
 ⟨some 77,.move (.t 3),none,[]⟩,
 ⟨some 78,.move (.t 2),none,[]⟩,
 ⟨some 79,.bin .sub (.t 77) (.t 78),none,[]⟩,
 ⟨some 80,.bin .eql (.t 79) (.c (.d (.int .i64 1))),none,[]⟩]
def quw:List VOper:=[
 ⟨some 81,.move (.t 1),none,[]⟩,
 ⟨some 14,.move (.t 81),none,[]⟩]
def quv:List VOper:=[
 ⟨some 82,.move (.t 2),none,[]⟩,
 ⟨some 15,.move (.t 82),none,[]⟩]
def qlC:List VOper:=[
 ⟨some 83,.move (.t 14),none,[]⟩,
 ⟨some 84,.move (.t 15),none,[]⟩,
 ⟨some 85,.bin .lss (.t 83) (.t 84),none,[]⟩]
def qoF:List VOper:=[
 ⟨some 86,.move (.t 14),none,[]⟩,
 ⟨some 87,.move (.t 15),none,[]⟩,
 ⟨some 88,.bin .add (.t 86) (.t 87),none,[]⟩,
 ⟨some 89,.conv (.kind .u64) (.t 88),none,[]⟩,
 ⟨some 90,.bin .shr (.t 89) (.c (.d (.int .u64 1))),none,[]⟩,
 ⟨some 91,.conv (.kind .i64) (.t 90),none,[]⟩,
 ⟨some 16,.move (.t 91),none,[]⟩]
def qlB:List VOper:=[
 ⟨some 92,.move (.t 4),none,[]⟩,
 ⟨some 93,.move (.t 0),none,[]⟩,
 ⟨some 94,.move (.t 2),none,[]⟩,
 ⟨some 95,.indexAddr 3 none (.t 93) (.t 94),none,[1,2]⟩,
 ⟨some 96,.load true 3 (.t 95),none,[3]⟩,
 ⟨some 97,.move (.t 0),none,[]⟩,
 ⟨some 98,.move (.t 16),none,[]⟩,
 ⟨some 99,.indexAddr 3 none (.t 97) (.t 98),none,[5,6]⟩,
 ⟨some 100,.load true 3 (.t 99),none,[7]⟩,
 ⟨some 101,.call false (.t 92) [.t 96,.t 100],none,[0,4,8]⟩,
 ⟨some 102,.bin .lss (.t 101) (.c (.d (.int .i64 0))),none,[9]⟩,
 ⟨some 103,.not (.t 102),none,[10]⟩]
def qoE:List VOper:=[
 ⟨some 104,.move (.t 16),none,[]⟩,
 ⟨some 105,.bin .add (.t 104) (.c (.d (.int .i64 1))),none,[]⟩,
 ⟨some 14,.move (.t 105),none,[]⟩]
def qoD:List VOper:=[
 ⟨some 106,.move (.t 16),none,[]⟩,
 ⟨some 15,.move (.t 106),none,[]⟩]
def qkV:VCode:=(.seq (.seq (.region false 0 [0,2,4,14,15,85] qlC) (.cond (.t 85) .skip (.exit 4))) (.block 5 (.seq (.region false 0 [0,2,4,14,15,16] qoF) (.seq (.region true 0 [0,2,4,14,15,16,103] qlB) (.cond (.t 103) (.region false 0 [0,2,4,14,15] qoE) (.region false 0 [0,2,4,14,15] qoD))))))
def quu:List VOper:=[
 ⟨some 107,.move (.t 2),none,[]⟩,
 ⟨some 17,.move (.t 107),none,[]⟩]
def qoC:List VOper:=[
 ⟨some 108,.move (.t 17),none,[]⟩,
 ⟨some 109,.move (.t 14),none,[]⟩,
 ⟨some 110,.bin .gtr (.t 108) (.t 109),none,[]⟩]
def qlA:List VOper:=[
 ⟨some 113,.move (.t 0),none,[]⟩,
 ⟨some 114,.move (.t 17),none,[]⟩,
 ⟨some 115,.move (.t 0),none,[]⟩,
 ⟨some 116,.move (.t 17),none,[]⟩,
 ⟨some 117,.bin .sub (.t 116) (.c (.d (.int .i64 1))),none,[3]⟩,
 ⟨some 118,.move (.t 0),none,[]⟩,
 ⟨some 119,.move (.t 17),none,[]⟩,
 ⟨some 120,.bin .sub (.t 119) (.c (.d (.int .i64 1))),none,[6]⟩,
 ⟨some 121,.indexAddr 3 none (.t 118) (.t 120),none,[5,7]⟩,
 ⟨some 122,.load true 3 (.t 121),none,[8]⟩,
 ⟨some 123,.move (.t 0),none,[]⟩,
 ⟨some 124,.move (.t 17),none,[]⟩,
 ⟨some 125,.indexAddr 3 none (.t 123) (.t 124),none,[10,11]⟩,
 ⟨some 126,.load true 3 (.t 125),none,[12]⟩,
 ⟨some 127,.indexAddr 3 none (.t 113) (.t 114),none,[0,1,5,6,7,8,9,13]⟩,
 ⟨none,.store false 3 (.t 127) (.t 122),none,[0,1,5,6,7,8,9,13,14]⟩,
 ⟨some 128,.indexAddr 3 none (.t 115) (.t 117),none,[0,1,2,3,4,5,6,7,8,9,10,11,12,13,14,15]⟩,
 ⟨none,.store false 3 (.t 128) (.t 126),none,[0,1,2,3,4,5,6,7,8,9,10,11,12,13,14,15,16]⟩]
def qut:List VOper:=[
 ⟨some 111,.move (.t 17),none,[]⟩,
 ⟨some 112,.bin .sub (.t 111) (.c (.d (.int .i64 1))),none,[]⟩,
 ⟨some 17,.move (.t 112),none,[]⟩]
def qnM:VCode:=(.seq (.seq (.region false 0 [0,14,17,110] qoC) (.cond (.t 110) .skip (.exit 6))) (.seq (.block 7 (.region true 0 [0,14,17] qlA)) (.region false 0 [0,14,17] qut)))
def qoB:List VOper:=[
 ⟨some 129,.move (.t 1),none,[]⟩,
 ⟨some 130,.move (.t 3),none,[]⟩,
 ⟨some 131,.bin .add (.t 129) (.t 130),none,[]⟩,
 ⟨some 132,.conv (.kind .u64) (.t 131),none,[]⟩,
 ⟨some 133,.bin .shr (.t 132) (.c (.d (.int .u64 1))),none,[]⟩,
 ⟨some 134,.conv (.kind .i64) (.t 133),none,[]⟩,
 ⟨some 18,.move (.t 134),none,[]⟩]
def qoA:List VOper:=[
 ⟨some 135,.move (.t 18),none,[]⟩,
 ⟨some 136,.move (.t 2),none,[]⟩,
 ⟨some 137,.bin .add (.t 135) (.t 136),none,[]⟩,
 ⟨some 19,.move (.t 137),none,[]⟩]
def qoz:List VOper:=[
 ⟨some 20,.move (.c (.d (.int .i64 0))),none,[]⟩,
 ⟨some 21,.move (.c (.d (.int .i64 0))),none,[]⟩]
def qoy:List VOper:=[
 ⟨some 138,.move (.t 2),none,[]⟩,
 ⟨some 139,.move (.t 18),none,[]⟩,
 ⟨some 140,.bin .gtr (.t 138) (.t 139),none,[]⟩]
def qus:List VOper:=[
 ⟨some 141,.move (.t 19),none,[]⟩,
 ⟨some 142,.move (.t 3),none,[]⟩,
 ⟨some 143,.bin .sub (.t 141) (.t 142),none,[]⟩,
 ⟨some 20,.move (.t 143),none,[]⟩]
def qur:List VOper:=[
 ⟨some 144,.move (.t 18),none,[]⟩,
 ⟨some 21,.move (.t 144),none,[]⟩]
def quq:List VOper:=[
 ⟨some 145,.move (.t 1),none,[]⟩,
 ⟨some 20,.move (.t 145),none,[]⟩]
def qup:List VOper:=[
 ⟨some 146,.move (.t 2),none,[]⟩,
 ⟨some 21,.move (.t 146),none,[]⟩]
def qox:List VOper:=[
 ⟨some 147,.move (.t 19),none,[]⟩,
 ⟨some 148,.bin .sub (.t 147) (.c (.d (.int .i64 1))),none,[]⟩,
 ⟨some 22,.move (.t 148),none,[]⟩]
def qlz:List VOper:=[
 ⟨some 149,.move (.t 20),none,[]⟩,
 ⟨some 150,.move (.t 21),none,[]⟩,
 ⟨some 151,.bin .lss (.t 149) (.t 150),none,[]⟩]
def qow:List VOper:=[
 ⟨some 152,.move (.t 20),none,[]⟩,
 ⟨some 153,.move (.t 21),none,[]⟩,
 ⟨some 154,.bin .add (.t 152) (.t 153),none,[]⟩,
 ⟨some 155,.conv (.kind .u64) (.t 154),none,[]⟩,
 ⟨some 156,.bin .shr (.t 155) (.c (.d (.int .u64 1))),none,[]⟩,
 ⟨some 157,.conv (.kind .i64) (.t 156),none,[]⟩,
 ⟨some 23,.move (.t 157),none,[]⟩]
def qly:List VOper:=[
 ⟨some 158,.move (.t 4),none,[]⟩,
 ⟨some 159,.move (.t 0),none,[]⟩,
 ⟨some 160,.move (.t 22),none,[]⟩,
 ⟨some 161,.move (.t 23),none,[]⟩,
 ⟨some 162,.bin .sub (.t 160) (.t 161),none,[2,3]⟩,
 ⟨some 163,.indexAddr 3 none (.t 159) (.t 162),none,[1,4]⟩,
 ⟨some 164,.load true 3 (.t 163),none,[5]⟩,
 ⟨some 165,.move (.t 0),none,[]⟩,
 ⟨some 166,.move (.t 23),none,[]⟩,
 ⟨some 167,.indexAddr 3 none (.t 165) (.t 166),none,[7,8]⟩,
 ⟨some 168,.load true 3 (.t 167),none,[9]⟩,
 ⟨some 169,.call false (.t 158) [.t 164,.t 168],none,[0,6,10]⟩,
 ⟨some 170,.bin .lss (.t 169) (.c (.d (.int .i64 0))),none,[11]⟩,
 ⟨some 171,.not (.t 170),none,[12]⟩]
def qov:List VOper:=[
 ⟨some 172,.move (.t 23),none,[]⟩,
 ⟨some 173,.bin .add (.t 172) (.c (.d (.int .i64 1))),none,[]⟩,
 ⟨some 20,.move (.t 173),none,[]⟩]
def qou:List VOper:=[
 ⟨some 174,.move (.t 23),none,[]⟩,
 ⟨some 21,.move (.t 174),none,[]⟩]
def qgN:VCode:=(.seq (.seq (.region false 0 [0,1,2,3,4,18,19,20,21,22,151] qlz) (.cond (.t 151) .skip (.exit 8))) (.block 9 (.seq (.region false 0 [0,1,2,3,4,18,19,20,21,22,23] qow) (.seq (.region true 0 [0,1,2,3,4,18,19,20,21,22,23,171] qly) (.cond (.t 171) (.region false 0 [0,1,2,3,4,18,19,20,21,22] qov) (.region false 0 [0,1,2,3,4,18,19,20,21,22] qou))))))
def qi6:List VOper:=[
 ⟨some 175,.move (.t 19),none,[]⟩,
 ⟨some 176,.move (.t 20),none,[]⟩,
 ⟨some 177,.bin .sub (.t 175) (.t 176),none,[]⟩,
 ⟨some 24,.move (.t 177),none,[]⟩]
def qi5:List VOper:=[
 ⟨some 178,.move (.t 20),none,[]⟩,
 ⟨some 179,.move (.t 2),none,[]⟩,
 ⟨some 180,.bin .lss (.t 178) (.t 179),none,[]⟩,
 ⟨some 181,.move (.t 180),none,[]⟩,
 ⟨some 182,.move (.t 2),some (181,true),[]⟩,
 ⟨some 183,.move (.t 24),some (181,true),[]⟩,
 ⟨some 184,.bin .lss (.t 182) (.t 183),some (181,true),[]⟩,
 ⟨some 185,.pick (.t 181) (.t 184) (.c (.d (.bool false))),none,[]⟩]
def qi4:List VOper:=[
 ⟨some 186,.move (.t 0),none,[]⟩,
 ⟨some 187,.move (.t 20),none,[]⟩,
 ⟨some 188,.move (.t 2),none,[]⟩,
 ⟨some 189,.move (.t 24),none,[]⟩,
 ⟨some 190,.move (.t 4),none,[]⟩,
 ⟨some 191,.call false (.c (.fn 174 [])) [.t 186,.t 187,.t 188,.t 189,.t 190],none,[]⟩]
def qi3:List VOper:=[
 ⟨some 192,.move (.t 1),none,[]⟩,
 ⟨some 193,.move (.t 20),none,[]⟩,
 ⟨some 194,.bin .lss (.t 192) (.t 193),none,[]⟩,
 ⟨some 195,.move (.t 194),none,[]⟩,
 ⟨some 196,.move (.t 20),some (195,true),[]⟩,
 ⟨some 197,.move (.t 18),some (195,true),[]⟩,
 ⟨some 198,.bin .lss (.t 196) (.t 197),some (195,true),[]⟩,
 ⟨some 199,.pick (.t 195) (.t 198) (.c (.d (.bool false))),none,[]⟩]
def qi2:List VOper:=[
 ⟨some 200,.move (.t 0),none,[]⟩,
 ⟨some 201,.move (.t 1),none,[]⟩,
 ⟨some 202,.move (.t 20),none,[]⟩,
 ⟨some 203,.move (.t 18),none,[]⟩,
 ⟨some 204,.move (.t 4),none,[]⟩,
 ⟨some 205,.call false (.c (.fn 173 [])) [.t 200,.t 201,.t 202,.t 203,.t 204],none,[]⟩]
def qi1:List VOper:=[
 ⟨some 206,.move (.t 18),none,[]⟩,
 ⟨some 207,.move (.t 24),none,[]⟩,
 ⟨some 208,.bin .lss (.t 206) (.t 207),none,[]⟩,
 ⟨some 209,.move (.t 208),none,[]⟩,
 ⟨some 210,.move (.t 24),some (209,true),[]⟩,
 ⟨some 211,.move (.t 3),some (209,true),[]⟩,
 ⟨some 212,.bin .lss (.t 210) (.t 211),some (209,true),[]⟩,
 ⟨some 213,.pick (.t 209) (.t 212) (.c (.d (.bool false))),none,[]⟩]
def qi0:List VOper:=[
 ⟨some 214,.move (.t 0),none,[]⟩,
 ⟨some 215,.move (.t 18),none,[]⟩,
 ⟨some 216,.move (.t 24),none,[]⟩,
 ⟨some 217,.move (.t 3),none,[]⟩,
 ⟨some 218,.move (.t 4),none,[]⟩,
 ⟨some 219,.call false (.c (.fn 173 [])) [.t 214,.t 215,.t 216,.t 217,.t 218],none,[]⟩]
def qwZ:VFn:=⟨5,[],(.seq (.seq (.region false 0 [0,1,2,3,4,28] qmL) (.cond (.t 28) (.seq (.region false 0 [0,1,3,4,10] qzM) (.seq (.region false 0 [0,1,4,10,11] qzL) (.seq (.block 0 (.loop [0,1,4,10,11] qkW)) (.seq (.seq (.region false 0 [0,10,13] qzK) (.block 2 (.loop [0,10,13] qnN))) .ret)))) .skip)) (.seq (.seq (.region false 0 [0,1,2,3,4,80] qlD) (.cond (.t 80) (.seq (.region false 0 [0,2,4,14] quw) (.seq (.region false 0 [0,2,4,14,15] quv) (.seq (.block 4 (.loop [0,2,4,14,15] qkV)) (.seq (.seq (.region false 0 [0,14,17] quu) (.block 6 (.loop [0,14,17] qnM))) .ret)))) .skip)) (.seq (.region false 0 [0,1,2,3,4,18] qoB) (.seq (.region false 0 [0,1,2,3,4,18,19] qoA) (.seq (.region false 0 [0,1,2,3,4,18,19] qoz) (.seq (.seq (.region false 0 [0,1,2,3,4,18,19,140] qoy) (.cond (.t 140) (.seq (.region false 0 [0,1,2,3,4,18,19,20] qus) (.region false 0 [0,1,2,3,4,18,19,20,21] qur)) (.seq (.region false 0 [0,1,2,3,4,18,19,20] quq) (.region false 0 [0,1,2,3,4,18,19,20,21] qup)))) (.seq (.region false 0 [0,1,2,3,4,18,19,20,21,22] qox) (.seq (.block 8 (.loop [0,1,2,3,4,18,19,20,21,22] qgN)) (.seq (.region false 0 [0,1,2,3,4,18,20,24] qi6) (.seq (.seq (.region false 0 [0,1,2,3,4,18,20,24,185] qi5) (.cond (.t 185) (.region false 0 [0,1,3,4,18,20,24] qi4) .skip)) (.seq (.seq (.region false 0 [0,1,3,4,18,20,24,199] qi3) (.cond (.t 199) (.region false 0 [0,3,4,18,24] qi2) .skip)) (.seq (.region false 0 [0,3,4,18,24,213] qi1) (.cond (.t 213) (.region false 0 [] qi0) .skip)))))))))))))⟩
def qpD:List VOper:=[
 ⟨some 12,.move (.t 2),none,[]⟩,
 ⟨some 13,.move (.t 1),none,[]⟩,
 ⟨some 14,.bin .sub (.t 12) (.t 13),none,[]⟩,
 ⟨some 10,.move (.t 14),none,[]⟩]
def qpC:List VOper:=[
 ⟨some 15,.move (.t 3),none,[]⟩,
 ⟨some 16,.move (.t 2),none,[]⟩,
 ⟨some 17,.bin .sub (.t 15) (.t 16),none,[]⟩,
 ⟨some 11,.move (.t 17),none,[]⟩]
def qpB:List VOper:=[
 ⟨some 18,.move (.t 10),none,[]⟩,
 ⟨some 19,.move (.t 11),none,[]⟩,
 ⟨some 20,.bin .neq (.t 18) (.t 19),none,[]⟩]
def quj:List VOper:=[
 ⟨some 21,.move (.t 10),none,[]⟩,
 ⟨some 22,.move (.t 11),none,[]⟩,
 ⟨some 23,.bin .gtr (.t 21) (.t 22),none,[]⟩]
def qui:List VOper:=[
 ⟨some 24,.move (.t 0),none,[]⟩,
 ⟨some 25,.move (.t 2),none,[]⟩,
 ⟨some 26,.move (.t 10),none,[]⟩,
 ⟨some 27,.bin .sub (.t 25) (.t 26),none,[]⟩,
 ⟨some 28,.move (.t 2),none,[]⟩,
 ⟨some 29,.move (.t 11),none,[]⟩,
 ⟨some 30,.move (.t 4),none,[]⟩,
 ⟨some 31,.call false (.c (.fn 175 [])) [.t 24,.t 27,.t 28,.t 29,.t 30],none,[]⟩]
def quh:List VOper:=[
 ⟨some 32,.move (.t 10),none,[]⟩,
 ⟨some 33,.move (.t 11),none,[]⟩,
 ⟨some 34,.bin .sub (.t 32) (.t 33),none,[]⟩,
 ⟨some 10,.move (.t 34),none,[]⟩]
def qug:List VOper:=[
 ⟨some 35,.move (.t 0),none,[]⟩,
 ⟨some 36,.move (.t 2),none,[]⟩,
 ⟨some 37,.move (.t 10),none,[]⟩,
 ⟨some 38,.bin .sub (.t 36) (.t 37),none,[]⟩,
 ⟨some 39,.move (.t 2),none,[]⟩,
 ⟨some 40,.move (.t 11),none,[]⟩,
 ⟨some 41,.bin .add (.t 39) (.t 40),none,[]⟩,
 ⟨some 42,.move (.t 10),none,[]⟩,
 ⟨some 43,.bin .sub (.t 41) (.t 42),none,[]⟩,
 ⟨some 44,.move (.t 10),none,[]⟩,
 ⟨some 45,.move (.t 4),none,[]⟩,
 ⟨some 46,.call false (.c (.fn 175 [])) [.t 35,.t 38,.t 43,.t 44,.t 45],none,[]⟩]
def quf:List VOper:=[
 ⟨some 47,.move (.t 11),none,[]⟩,
 ⟨some 48,.move (.t 10),none,[]⟩,
 ⟨some 49,.bin .sub (.t 47) (.t 48),none,[]⟩,
 ⟨some 11,.move (.t 49),none,[]⟩]
def qnL:VCode:=(.seq (.seq (.region false 0 [0,2,4,10,11,20] qpB) (.cond (.t 20) .skip (.exit 0))) (.block 1 (.seq (.region false 0 [0,2,4,10,11,23] quj) (.cond (.t 23) (.seq (.region false 0 [0,2,4,10,11] qui) (.region false 0 [0,2,4,10,11] quh)) (.seq (.region false 0 [0,2,4,10,11] qug) (.region false 0 [0,2,4,10,11] quf))))))
def qpA:List VOper:=[
 ⟨some 50,.move (.t 0),none,[]⟩,
 ⟨some 51,.move (.t 2),none,[]⟩,
 ⟨some 52,.move (.t 10),none,[]⟩,
 ⟨some 53,.bin .sub (.t 51) (.t 52),none,[]⟩,
 ⟨some 54,.move (.t 2),none,[]⟩,
 ⟨some 55,.move (.t 10),none,[]⟩,
 ⟨some 56,.move (.t 4),none,[]⟩,
 ⟨some 57,.call false (.c (.fn 175 [])) [.t 50,.t 53,.t 54,.t 55,.t 56],none,[]⟩]
def qDf:VFn:=⟨5,[],(.seq (.region false 0 [0,2,3,4,10] qpD) (.seq (.region false 0 [0,2,4,10,11] qpC) (.seq (.block 0 (.loop [0,2,4,10,11] qnL)) (.region false 0 [] qpA))))⟩
def qzJ:List VOper:=[
 ⟨some 10,.move (.c (.d (.int .i64 0))),none,[]⟩]
def que:List VOper:=[
 ⟨some 11,.move (.t 10),none,[]⟩,
 ⟨some 12,.move (.t 3),none,[]⟩,
 ⟨some 13,.bin .lss (.t 11) (.t 12),none,[]⟩]
def qpz:List VOper:=[
 ⟨some 16,.move (.t 0),none,[]⟩,
 ⟨some 17,.move (.t 1),none,[]⟩,
 ⟨some 18,.move (.t 10),none,[]⟩,
 ⟨some 19,.bin .add (.t 17) (.t 18),none,[1,2]⟩,
 ⟨some 20,.move (.t 0),none,[]⟩,
 ⟨some 21,.move (.t 2),none,[]⟩,
 ⟨some 22,.move (.t 10),none,[]⟩,
 ⟨some 23,.bin .add (.t 21) (.t 22),none,[5,6]⟩,
 ⟨some 24,.move (.t 0),none,[]⟩,
 ⟨some 25,.move (.t 2),none,[]⟩,
 ⟨some 26,.move (.t 10),none,[]⟩,
 ⟨some 27,.bin .add (.t 25) (.t 26),none,[9,10]⟩,
 ⟨some 28,.indexAddr 3 none (.t 24) (.t 27),none,[8,11]⟩,
 ⟨some 29,.load true 3 (.t 28),none,[12]⟩,
 ⟨some 30,.move (.t 0),none,[]⟩,
 ⟨some 31,.move (.t 1),none,[]⟩,
 ⟨some 32,.move (.t 10),none,[]⟩,
 ⟨some 33,.bin .add (.t 31) (.t 32),none,[15,16]⟩,
 ⟨some 34,.indexAddr 3 none (.t 30) (.t 33),none,[14,17]⟩,
 ⟨some 35,.load true 3 (.t 34),none,[18]⟩,
 ⟨some 36,.indexAddr 3 none (.t 16) (.t 19),none,[0,1,2,3,8,9,10,11,12,13,19]⟩,
 ⟨none,.store false 3 (.t 36) (.t 29),none,[0,1,2,3,8,9,10,11,12,13,19,20]⟩,
 ⟨some 37,.indexAddr 3 none (.t 20) (.t 23),none,[0,1,2,3,4,5,6,7,8,9,10,11,12,13,14,15,16,17,18,19,20,21]⟩,
 ⟨none,.store false 3 (.t 37) (.t 35),none,[0,1,2,3,4,5,6,7,8,9,10,11,12,13,14,15,16,17,18,19,20,21,22]⟩]
def qzI:List VOper:=[
 ⟨some 14,.move (.t 10),none,[]⟩,
 ⟨some 15,.bin .add (.t 14) (.c (.d (.int .i64 1))),none,[]⟩,
 ⟨some 10,.move (.t 15),none,[]⟩]
def qqA:VCode:=(.seq (.seq (.region false 0 [0,1,2,3,10,13] que) (.cond (.t 13) .skip (.exit 0))) (.seq (.block 1 (.region true 0 [0,1,2,3,10] qpz)) (.region false 0 [0,1,2,3,10] qzI)))
def qDe:VFn:=⟨5,[],(.seq (.region false 0 [0,1,2,3,10] qzJ) (.block 0 (.loop [0,1,2,3,10] qqA)))⟩
def qud:List VOper:=[
 ⟨some 2,.move (.c (.d (.sl .nil []))),none,[]⟩,
 ⟨some 3,.alloc 0 [.int .i64 0,.int .i64 0,.sl .nil []],none,[]⟩]
def quc:List VOper:=[
 ⟨some 6,.move (.t 0),none,[]⟩,
 ⟨some 7,.call false (.c (.fn 156 [])) [.t 6],none,[]⟩,
 ⟨some 4,.move (.t 7),none,[]⟩]
def qub:List VOper:=[
 ⟨some 8,.move (.t 4),none,[]⟩,
 ⟨some 9,.callS 8 (.c (.fn 161 [])) [.t 8],none,[]⟩,
 ⟨some 5,.alloc 0 [.int .i64 0,.int .i64 0,.sl .nil []],none,[]⟩,
 ⟨none,.store false 3 (.t 5) (.t 9),none,[]⟩]
def qua:List VOper:=[
 ⟨some 10,.move (.t 4),none,[]⟩,
 ⟨some 11,.call false (.c (.fn 162 [])) [.t 10,.c (.d (.int .i64 8))],none,[]⟩]
def qt9:List VOper:=[
 ⟨some 12,.move (.t 4),none,[]⟩,
 ⟨some 13,.callS 4 (.c (.fn 195 [])) [.t 12],none,[0]⟩,
 ⟨some 14,.loadS true 3 (.t 5) 4,none,[]⟩,
 ⟨some 2,.move (.t 13),none,[0,1]⟩,
 ⟨none,.store false 3 (.t 3) (.t 14),none,[0,1,2,3]⟩]
def qt8:List VOper:=[
 ⟨some 15,.call true (.c (.fn 155 [])) [],none,[]⟩,
 ⟨some 16,.load true 3 (.t 5),none,[]⟩,
 ⟨some 2,.move (.t 15),none,[0]⟩,
 ⟨none,.store false 3 (.t 3) (.t 16),none,[0,1,2]⟩]
def qzt:VFn:=⟨1,[.tmp 2,.cell 3 true 3],(.seq (.region false 1 [0,3] qud) (.seq (.region false 0 [3,4] quc) (.seq (.region false 1 [3,4,5] qub) (.seq (.seq (.region false 0 [3,4,5,11] qua) (.cond (.t 11) (.seq (.region true 0 [2,3] qt9) .ret) .skip)) (.seq (.region true 0 [2,3] qt8) .ret)))))⟩
def qhN:List VOper:=[
 ⟨some 2,.move (.c (.d (.sl .nil []))),none,[]⟩]
def qhM:List VOper:=[
 ⟨some 4,.call true (.c (.fn 155 [])) [],none,[]⟩,
 ⟨some 3,.move (.t 4),none,[]⟩]
def qhL:List VOper:=[
 ⟨some 5,.move (.t 0),none,[]⟩,
 ⟨some 6,.call false (.c (.fn 159 [])) [.t 5,.c (.d (.int .i64 10))],none,[]⟩]
def qhK:List VOper:=[
 ⟨some 8,.bin .eql (.t 6) (.c (.d (.int .i64 0))),none,[]⟩,
 ⟨some 7,.move (.t 8),none,[]⟩]
def qhJ:List VOper:=[
 ⟨some 9,.move (.t 3),none,[]⟩,
 ⟨some 10,.move (.t 0),none,[]⟩,
 ⟨some 11,.buildSlice 1 (.str ⟨#[]⟩) 6 [(0,.c (.d (.str ⟨#[]⟩))),(1,.c (.d (.str ⟨#[65]⟩))),(2,.c (.d (.str ⟨#[116,116]⟩))),(3,.c (.d (.str ⟨#[97,98,99,100,101,102,103,104,105]⟩))),(4,.c (.d (.str ⟨#[49,97]⟩))),(5,.c (.d (.str ⟨#[97,49]⟩)))],none,[]⟩,
 ⟨some 12,.call false (.c (.fn 196 [])) [.t 10,.t 11],none,[]⟩,
 ⟨some 13,.indexAddr 3 none (.t 9) (.c (.d (.int .i64 1))),none,[]⟩,
 ⟨some 14,.fieldAddr 0 (.t 13),none,[]⟩,
 ⟨none,.store false 1 (.t 14) (.t 12),none,[]⟩]
def qhI:List VOper:=[
 ⟨some 16,.bin .eql (.t 6) (.c (.d (.int .i64 1))),none,[]⟩,
 ⟨some 15,.move (.t 16),none,[]⟩]
def qhH:List VOper:=[
 ⟨some 17,.move (.t 3),none,[]⟩,
 ⟨some 18,.move (.t 0),none,[]⟩,
 ⟨some 19,.buildSlice 1 (.int .i64 0) 3 [(0,.c (.d (.int .i64 (-1)))),(1,.c (.d (.int .i64 3))),(2,.c (.d (.int .i64 4)))],none,[]⟩,
 ⟨some 20,.call false (.c (.fn 160 [])) [.t 18,.t 19],none,[]⟩,
 ⟨some 21,.indexAddr 3 none (.t 17) (.c (.d (.int .i64 2))),none,[]⟩,
 ⟨some 22,.fieldAddr 1 (.t 21),none,[]⟩,
 ⟨none,.store false 1 (.t 22) (.t 20),none,[]⟩]
def qhG:List VOper:=[
 ⟨some 24,.bin .eql (.t 6) (.c (.d (.int .i64 2))),none,[]⟩,
 ⟨some 23,.move (.t 24),none,[]⟩]
def qhF:List VOper:=[
 ⟨some 25,.move (.t 3),none,[]⟩,
 ⟨some 26,.indexAddr 3 none (.t 25) (.c (.d (.int .i64 3))),none,[]⟩,
 ⟨some 27,.fieldAddr 2 (.t 26),none,[]⟩,
 ⟨none,.store false 1 (.t 27) (.c (.d (.bool true))),none,[]⟩]
def qhE:List VOper:=[
 ⟨some 29,.bin .eql (.t 6) (.c (.d (.int .i64 3))),none,[]⟩,
 ⟨some 28,.move (.t 29),none,[]⟩]
def qeJ:List VOper:=[
 ⟨some 30,.move (.t 3),none,[]⟩,
 ⟨some 31,.slice false 3 (.t 30) (some (.c (.d (.int .i64 1)))) none,none,[]⟩,
 ⟨some 2,.move (.t 31),none,[]⟩]
def qeI:List VOper:=[
 ⟨some 33,.bin .eql (.t 6) (.c (.d (.int .i64 4))),none,[]⟩,
 ⟨some 32,.move (.t 33),none,[]⟩]
def qeH:List VOper:=[
 ⟨some 34,.move (.t 3),none,[]⟩,
 ⟨some 35,.move (.t 0),none,[]⟩,
 ⟨some 36,.call false (.c (.fn 159 [])) [.t 35,.c (.d (.int .i64 4))],none,[]⟩,
 ⟨some 37,.slice false 3 (.t 34) none (some (.t 36)),none,[]⟩,
 ⟨some 2,.move (.t 37),none,[]⟩]
def qeG:List VOper:=[
 ⟨some 39,.bin .eql (.t 6) (.c (.d (.int .i64 5))),none,[]⟩,
 ⟨some 38,.move (.t 39),none,[]⟩]
def qeF:List VOper:=[
 ⟨some 40,.move (.t 3),none,[]⟩,
 ⟨some 41,.build [.str ⟨#[]⟩,.int .i64 0,.bool false] [(0,1,.c (.d (.str ⟨#[120,49]⟩)))],none,[]⟩,
 ⟨some 42,.move (.t 0),none,[]⟩,
 ⟨some 43,.buildSlice 1 (.str ⟨#[]⟩) 2 [(0,.c (.d (.str ⟨#[120,50]⟩))),(1,.c (.d (.str ⟨#[120,49]⟩)))],none,[]⟩,
 ⟨some 44,.call false (.c (.fn 196 [])) [.t 42,.t 43],none,[]⟩,
 ⟨some 45,.build [.str ⟨#[]⟩,.int .i64 0,.bool false] [(0,1,.t 44)],none,[]⟩,
 ⟨some 46,.buildSlice 3 (.agg [.str ⟨#[]⟩,.int .i64 0,.bool false]) 2 [(0,.t 41),(1,.t 45)],none,[]⟩,
 ⟨some 47,.append 3 32 (.t 40) (.t 46),none,[]⟩,
 ⟨some 2,.move (.t 47),none,[]⟩]
def qeE:List VOper:=[
 ⟨some 48,.move (.t 3),none,[]⟩,
 ⟨some 2,.move (.t 48),none,[]⟩]
def qsw:VFn:=⟨1,[.tmp 2],(.seq (.region false 0 [0] qhN) (.seq (.region false 0 [0,3] qhM) (.seq (.seq (.region false 0 [0,3,6] qhL) (.block 0 (.seq (.region false 0 [0,3,6,7] qhK) (.cond (.t 7) (.ghost (.focR 3 [0]) (.region false 0 [3] qhJ)) (.seq (.region false 0 [0,3,6,15] qhI) (.cond (.t 15) (.ghost (.focR 3 [0]) (.region false 0 [3] qhH)) (.seq (.region false 0 [0,3,6,23] qhG) (.cond (.t 23) (.ghost (.focR 3 [0]) (.region false 0 [3] qhF)) (.seq (.region false 0 [0,3,6,28] qhE) (.cond (.t 28) (.seq (.region false 0 [2] qeJ) .ret) (.seq (.region false 0 [0,3,6,32] qeI) (.cond (.t 32) (.seq (.region false 0 [2] qeH) .ret) (.seq (.region false 0 [0,3,38] qeG) (.cond (.t 38) (.seq (.region false 0 [2] qeF) .ret) .skip)))))))))))))) (.seq (.ghost (.frzR 3 1 []) (.region false 0 [2] qeE)) .ret))))⟩
def qzH:List VOper:=[
 ⟨some 4,.move (.c (.d (.str ⟨#[]⟩))),none,[]⟩]
def qzG:List VOper:=[
 ⟨some 5,.move (.t 1),none,[]⟩,
 ⟨some 6,.move (.t 0),none,[]⟩,
 ⟨some 7,.move (.t 1),none,[]⟩,
 ⟨some 8,.len false (.t 7),none,[]⟩,
 ⟨some 9,.call false (.c (.fn 159 [])) [.t 6,.t 8],none,[]⟩,
 ⟨some 10,.indexAddr 1 none (.t 5) (.t 9),none,[]⟩,
 ⟨some 11,.load false 1 (.t 10),none,[]⟩,
 ⟨some 4,.move (.t 11),none,[]⟩]
def qDd:VFn:=⟨2,[.tmp 4],(.seq (.region false 0 [0,1] qzH) (.seq (.region false 0 [4] qzG) .ret))⟩
def qpy:List VOper:=[
 ⟨some 2,.move (.c (.d (.bool false))),none,[]⟩]
def qpx:List VOper:=[
 ⟨some 7,.move (.t 0),none,[]⟩,
 ⟨some 8,.call true (.c (.fn 133 [])) [.t 7],none,[]⟩]
def qpw:List VOper:=[
 ⟨some 2,.move (.c (.d (.bool true))),none,[]⟩]
def qpv:List VOper:=[
 ⟨some 10,.move (.t 0),none,[]⟩,
 ⟨some 11,.call true (.c (.fn 367 [])) [.t 10],none,[]⟩,
 ⟨some 9,.move (.t 11),none,[]⟩,
 ⟨some 12,.extract (.t 9) 0,none,[]⟩,
 ⟨some 13,.extract (.t 9) 1,none,[]⟩,
 ⟨some 4,.alloc 0 [.int .i64 0,.int .i64 0,.sl .nil []],none,[]⟩,
 ⟨some 3,.move (.t 12),none,[]⟩,
 ⟨none,.store false 3 (.t 4) (.t 13),none,[]⟩]
def qpu:List VOper:=[
 ⟨some 15,.move (.t 0),none,[]⟩,
 ⟨some 16,.call true (.c (.fn 368 [])) [.t 15],none,[]⟩,
 ⟨some 14,.move (.t 16),none,[]⟩,
 ⟨some 17,.extract (.t 14) 0,none,[]⟩,
 ⟨some 18,.extract (.t 14) 1,none,[]⟩,
 ⟨some 6,.alloc 0 [.int .i64 0,.int .i64 0,.sl .nil []],none,[]⟩,
 ⟨some 5,.move (.t 17),none,[]⟩,
 ⟨none,.store false 3 (.t 6) (.t 18),none,[]⟩]
def qt7:List VOper:=[
 ⟨some 19,.move (.t 3),none,[]⟩,
 ⟨some 20,.load true 3 (.t 4),none,[]⟩,
 ⟨some 21,.call true (.c (.fn 70 [])) [.t 19,.t 20],none,[0,1]⟩,
 ⟨some 22,.move (.t 3),none,[]⟩,
 ⟨some 23,.load true 3 (.t 4),none,[]⟩,
 ⟨some 24,.call true (.c (.fn 80 [])) [.t 22,.t 23],none,[2,3,4]⟩,
 ⟨some 25,.eqB true (.t 21) (.t 24),none,[2,5]⟩,
 ⟨some 26,.move (.t 25),none,[5,6]⟩,
 ⟨some 27,.move (.t 5),some (26,false),[7]⟩,
 ⟨some 28,.load true 3 (.t 6),some (26,false),[7]⟩,
 ⟨some 29,.call true (.c (.fn 118 [])) [.t 27,.t 28],some (26,false),[7,8,9]⟩,
 ⟨some 30,.move (.t 5),some (26,false),[7]⟩,
 ⟨some 31,.load true 3 (.t 6),some (26,false),[7]⟩,
 ⟨some 32,.call true (.c (.fn 117 [])) [.t 30,.t 31],some (26,false),[7,10,11,12]⟩,
 ⟨some 33,.bin .neq (.t 29) (.t 32),some (26,false),[7,10,13]⟩,
 ⟨some 34,.pick (.t 26) (.c (.d (.bool true))) (.t 33),none,[7,14]⟩]
def qpt:List VOper:=[
 ⟨some 2,.move (.c (.d (.bool false))),none,[]⟩]
def qt6:List VOper:=[
 ⟨some 35,.move (.t 3),none,[]⟩,
 ⟨some 36,.load true 3 (.t 4),none,[]⟩,
 ⟨some 37,.call true (.c (.fn 70 [])) [.t 35,.t 36],none,[0,1]⟩,
 ⟨some 38,.not (.t 37),none,[2]⟩,
 ⟨some 39,.move (.t 38),none,[2,3]⟩,
 ⟨some 40,.move (.t 3),some (39,false),[4]⟩,
 ⟨some 41,.load true 3 (.t 4),some (39,false),[4]⟩,
 ⟨some 42,.call true (.c (.fn 169 [])) [.t 40,.t 41],some (39,false),[4,5,6]⟩,
 ⟨some 43,.load true 3 (.t 4),some (39,false),[4]⟩,
 ⟨some 44,.call true (.c (.fn 4 [])) [.t 42,.t 43],some (39,false),[4,7,8]⟩,
 ⟨some 45,.move (.t 44),some (39,false),[4,9]⟩,
 ⟨some 46,.move (.t 3),some (45,true),[10]⟩,
 ⟨some 47,.load true 3 (.t 4),some (45,true),[10]⟩,
 ⟨some 48,.call true (.c (.fn 118 [])) [.t 46,.t 47],some (45,true),[10,11,12]⟩,
 ⟨some 49,.bin .geq (.t 48) (.c (.d (.int .i64 1))),some (45,true),[10,13]⟩,
 ⟨some 50,.pick (.t 45) (.t 49) (.c (.d (.bool false))),some (39,false),[4,10,14]⟩,
 ⟨some 51,.pick (.t 39) (.c (.d (.bool true))) (.t 50),none,[4,15]⟩,
 ⟨some 2,.move (.t 51),none,[0,1,2,3,4,5,6,7,8,9,10,11,12,13,14,15,16]⟩]
def qzs:VFn:=⟨1,[.tmp 2],(.seq (.region false 0 [0] qpy) (.seq (.seq (.region false 0 [0,8] qpx) (.cond (.t 8) (.seq (.region false 0 [2] qpw) .ret) .skip)) (.seq (.region false 1 [0,3,4] qpv) (.seq (.region false 1 [3,4,5,6] qpu) (.seq (.seq (.region true 0 [3,4,34] qt7) (.cond (.t 34) (.seq (.region false 0 [2] qpt) .ret) .skip)) (.seq (.region true 0 [2] qt6) .ret))))))⟩
def qzF:List VOper:=[
 ⟨some 2,.move (.c (.d (.sl .nil []))),none,[]⟩,
 ⟨some 3,.alloc 0 [.int .i64 0,.int .i64 0,.sl .nil []],none,[]⟩]
def qzE:List VOper:=[
 ⟨some 7,.move (.t 0),none,[]⟩,
 ⟨some 8,.call true (.c (.fn 194 [])) [.t 7],none,[]⟩,
 ⟨some 6,.move (.t 8),none,[]⟩,
 ⟨some 9,.extract (.t 6) 0,none,[]⟩,
 ⟨some 10,.extract (.t 6) 1,none,[]⟩,
 ⟨some 5,.alloc 0 [.int .i64 0,.int .i64 0,.sl .nil []],none,[]⟩,
 ⟨some 4,.move (.t 9),none,[]⟩,
 ⟨none,.store false 3 (.t 5) (.t 10),none,[]⟩]
def qt5:List VOper:=[
 ⟨some 11,.move (.t 4),none,[]⟩,
 ⟨some 12,.load true 3 (.t 5),none,[]⟩,
 ⟨some 2,.move (.t 11),none,[0]⟩,
 ⟨none,.store false 3 (.t 3) (.t 12),none,[0,1,2]⟩]
def qDc:VFn:=⟨1,[.tmp 2,.cell 3 true 3],(.seq (.region false 1 [0,3] qzF) (.seq (.region false 1 [3,4,5] qzE) (.seq (.region true 0 [2,3] qt5) .ret)))⟩
def qzD:List VOper:=[
 ⟨some 2,.move (.c (.d (.sl .nil []))),none,[]⟩,
 ⟨some 3,.alloc 0 [.int .i64 0,.int .i64 0,.sl .nil []],none,[]⟩]
def qzC:List VOper:=[
 ⟨some 7,.move (.t 0),none,[]⟩,
 ⟨some 8,.call true (.c (.fn 194 [])) [.t 7],none,[]⟩,
 ⟨some 6,.move (.t 8),none,[]⟩,
 ⟨some 9,.extract (.t 6) 0,none,[]⟩,
 ⟨some 10,.extract (.t 6) 1,none,[]⟩,
 ⟨some 5,.alloc 0 [.int .i64 0,.int .i64 0,.sl .nil []],none,[]⟩,
 ⟨some 4,.move (.t 9),none,[]⟩,
 ⟨none,.store false 3 (.t 5) (.t 10),none,[]⟩]
def qt4:List VOper:=[
 ⟨some 11,.move (.t 4),none,[]⟩,
 ⟨some 12,.load true 3 (.t 5),none,[]⟩,
 ⟨some 2,.move (.t 11),none,[0]⟩,
 ⟨none,.store false 3 (.t 3) (.t 12),none,[0,1,2]⟩]
def qDb:VFn:=⟨1,[.tmp 2,.cell 3 true 3],(.seq (.region false 1 [0,3] qzD) (.seq (.region false 1 [3,4,5] qzC) (.seq (.region true 0 [2,3] qt4) .ret)))⟩
def look:List (Nat×VFn)->Nat->Option VFn
 | [],_=>none
 |(k,v)::r,n=>if n=k then some v else look r n
def qyY:List (Nat×VFn):=[(3,v3),(4,v4),(6,v6),(13,v13),(14,v14),(18,v18),(19,v19),(22,v22),(23,v23),(24,v24),(25,v25),(29,v29),(30,v30),(31,v31),(33,v33),(34,v34),(59,v59),(60,v60),(61,v61),(62,v62),(70,v70),(75,v75),(77,v77),(78,v78),(79,v79),(80,v80),(82,v82),(83,v83),(84,v84),(117,qtw),(118,qtv),(133,qDs),(147,qDr),(153,qDq),(154,qDp),(155,qDo),(156,qDn),(159,qDm),(160,qDl),(161,qDk),(162,qDj),(163,qDi),(164,qDh),(165,qBo),(166,qDg),(170,qzv),(171,qzu),(172,qw0),(173,qwZ),(174,qDf),(175,qDe),(194,qzt),(195,qsw),(196,qDd),(366,qzs),(367,qDc),(368,qDb)]
def qmI:SFn:=qeq (.region false 2 [0,3,4] qhQ) (.region false 0 [0,3,4,5] qhP) (.seq (.region false 0 [0,3,4,5,10,11,12] qhO) (.block 0 (.loop [0,3,4,5,10,11,12] qgO))) (.region false 0 [3,4,5,42] qd9) 170 6
theorem qBz:qJQ=qtI (.region false 2 [0,3,4] qhQ) (.region false 0 [0,3,4,5] qhP) (.seq (.region false 0 [0,3,4,5,10,11,12] qhO) (.block 0 (.loop [0,3,4,5,10,11,12] qgO))) (.region false 0 [3,4,5,42] qd9) 170 6:=rfl
def qBu:List (Nat×SFn):=[(169,qmI)]
def qGE:List (Nat×Nat):=[(161,1),(195,1)]
def qCc:List (Nat×Nat)->Nat->Option Nat
 | [],_=>none
 |(k,v)::r,n=>if n=k then some v else qCc r n
def qyv:List (Nat×(List DV->Option DV)):=[]
def E:Env:=⟨look qyY,fun k=>(qjt qyv k).map qB8,qu9 qBu,qCc qGE⟩
theorem qKp:E.code 3=some v3:=by kernel_rfl
theorem qKo:E.code 4=some v4:=by kernel_rfl
theorem qKn:E.code 6=some v6:=by kernel_rfl
theorem qJG:E.code 13=some v13:=by kernel_rfl
theorem qJF:E.code 14=some v14:=by kernel_rfl
theorem qJE:E.code 18=some v18:=by kernel_rfl
theorem qJD:E.code 19=some v19:=by kernel_rfl
theorem qJC:E.code 22=some v22:=by kernel_rfl
theorem qJB:E.code 23=some v23:=by kernel_rfl
theorem qJA:E.code 24=some v24:=by kernel_rfl
theorem qJz:E.code 25=some v25:=by kernel_rfl
theorem qJy:E.code 29=some v29:=by kernel_rfl
theorem qJx:E.code 30=some v30:=by kernel_rfl
theorem qJw:E.code 31=some v31:=by kernel_rfl
theorem qJv:E.code 33=some v33:=by kernel_rfl
theorem qJu:E.code 34=some v34:=by kernel_rfl
theorem qJt:E.code 59=some v59:=by kernel_rfl
theorem qJs:E.code 60=some v60:=by kernel_rfl
theorem qJr:E.code 61=some v61:=by kernel_rfl
theorem qJq:E.code 62=some v62:=by kernel_rfl
theorem qJp:E.code 70=some v70:=by kernel_rfl
theorem qJo:E.code 75=some v75:=by kernel_rfl
theorem qJn:E.code 77=some v77:=by kernel_rfl
theorem qJm:E.code 78=some v78:=by kernel_rfl
theorem qJl:E.code 79=some v79:=by kernel_rfl
theorem qJk:E.code 80=some v80:=by kernel_rfl
theorem qJj:E.code 82=some v82:=by kernel_rfl
theorem qJi:E.code 83=some v83:=by kernel_rfl
theorem qJh:E.code 84=some v84:=by kernel_rfl
theorem qHh:E.code 117=some qtw:=by kernel_rfl
theorem qHg:E.code 118=some qtv:=by kernel_rfl
theorem qHf:E.code 133=some qDs:=by kernel_rfl
theorem qHe:E.code 147=some qDr:=by kernel_rfl
theorem qHd:E.code 153=some qDq:=by kernel_rfl
theorem qHc:E.code 154=some qDp:=by kernel_rfl
theorem qHb:E.code 155=some qDo:=by kernel_rfl
theorem qHa:E.code 156=some qDn:=by kernel_rfl
theorem qG9:E.code 159=some qDm:=by kernel_rfl
theorem qG8:E.code 160=some qDl:=by kernel_rfl
theorem qG7:E.code 161=some qDk:=by kernel_rfl
theorem qG6:E.code 162=some qDj:=by kernel_rfl
theorem qG5:E.code 163=some qDi:=by kernel_rfl
theorem qG4:E.code 164=some qDh:=by kernel_rfl
theorem qG3:E.code 165=some qBo:=by kernel_rfl
theorem qG2:E.code 166=some qDg:=by kernel_rfl
theorem qG1:E.code 170=some qzv:=by kernel_rfl
theorem qG0:E.code 171=some qzu:=by kernel_rfl
theorem qGZ:E.code 172=some qw0:=by kernel_rfl
theorem qGY:E.code 173=some qwZ:=by kernel_rfl
theorem qGX:E.code 174=some qDf:=by kernel_rfl
theorem qGW:E.code 175=some qDe:=by kernel_rfl
theorem qGV:E.code 194=some qzt:=by kernel_rfl
theorem qGU:E.code 195=some qsw:=by kernel_rfl
theorem qGT:E.code 196=some qDd:=by kernel_rfl
theorem qGS:E.code 366=some qzs:=by kernel_rfl
theorem qGR:E.code 367=some qDc:=by kernel_rfl
theorem qGQ:E.code 368=some qDb:=by kernel_rfl
end Go.Proofs.Ytfiakfiocdfpbaa.VS
