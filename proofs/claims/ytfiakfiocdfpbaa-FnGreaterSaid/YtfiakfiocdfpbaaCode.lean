/- The code of the functions that the laws reach, for the evaluator. -/
import Derived.Test.YtfiakfiocdfpbaaNat0
import Derived.KernelRfl
set_option linter.unusedVariables false
namespace Go.Proofs.Ytfiakfiocdfpbaa.VS
def qEQ:List VOper:=[
 ⟨some 2,.box 0 (.t 0),none,[]⟩,
 ⟨some 3,.box 1 (.t 1),none,[]⟩,
 ⟨some 4,.move (.c (.d (.bool false))),none,[]⟩]
def qEP:List VOper:=[
 ⟨some 6,.fieldAddr 0 (.t 2),none,[]⟩,
 ⟨some 7,.load false 1 (.t 6),none,[]⟩,
 ⟨some 8,.fieldAddr 0 (.t 3),none,[]⟩,
 ⟨some 9,.load false 1 (.t 8),none,[]⟩,
 ⟨some 10,.bin .neq (.t 7) (.t 9),none,[]⟩,
 ⟨some 11,.move (.t 10),none,[]⟩,
 ⟨some 12,.fieldAddr 1 (.t 2),some (11,false),[]⟩,
 ⟨some 13,.load false 1 (.t 12),some (11,false),[]⟩,
 ⟨some 14,.fieldAddr 1 (.t 3),some (11,false),[]⟩,
 ⟨some 15,.load false 1 (.t 14),some (11,false),[]⟩,
 ⟨some 16,.bin .neq (.t 13) (.t 15),some (11,false),[]⟩,
 ⟨some 17,.pick (.t 11) (.c (.d (.bool true))) (.t 16),none,[]⟩,
 ⟨some 18,.move (.t 17),none,[]⟩,
 ⟨some 19,.fieldAddr 2 (.t 2),some (18,false),[]⟩,
 ⟨some 20,.load false 1 (.t 19),some (18,false),[]⟩,
 ⟨some 21,.len false (.t 20),some (18,false),[]⟩,
 ⟨some 22,.fieldAddr 2 (.t 3),some (18,false),[]⟩,
 ⟨some 23,.load false 1 (.t 22),some (18,false),[]⟩,
 ⟨some 24,.len false (.t 23),some (18,false),[]⟩,
 ⟨some 25,.bin .neq (.t 21) (.t 24),some (18,false),[]⟩,
 ⟨some 26,.pick (.t 18) (.c (.d (.bool true))) (.t 25),none,[]⟩]
def qEO:List VOper:=[
 ⟨some 4,.move (.c (.d (.bool false))),none,[]⟩]
def qKO:List VOper:=[
 ⟨some 5,.move (.c (.d (.int .i64 0))),none,[]⟩]
def qHc:List VOper:=[
 ⟨some 27,.move (.t 5),none,[]⟩,
 ⟨some 28,.fieldAddr 2 (.t 2),none,[]⟩,
 ⟨some 29,.load false 1 (.t 28),none,[]⟩,
 ⟨some 30,.len false (.t 29),none,[]⟩,
 ⟨some 31,.bin .lss (.t 27) (.t 30),none,[]⟩]
def qIA:List VOper:=[
 ⟨some 34,.fieldAddr 2 (.t 2),none,[]⟩,
 ⟨some 35,.load false 1 (.t 34),none,[0]⟩,
 ⟨some 36,.move (.t 5),none,[]⟩,
 ⟨some 37,.indexAddr 3 none (.t 35) (.t 36),none,[1,2]⟩,
 ⟨some 38,.load true 3 (.t 37),none,[3]⟩,
 ⟨some 39,.fieldAddr 2 (.t 3),none,[]⟩,
 ⟨some 40,.load false 1 (.t 39),none,[5]⟩,
 ⟨some 41,.move (.t 5),none,[]⟩,
 ⟨some 42,.indexAddr 3 none (.t 40) (.t 41),none,[6,7]⟩,
 ⟨some 43,.load true 3 (.t 42),none,[8]⟩,
 ⟨some 44,.call true (.c (.fn 3 [])) [.t 38,.t 43],none,[4,9]⟩,
 ⟨some 45,.not (.t 44),none,[10]⟩]
def qIz:List VOper:=[
 ⟨some 4,.move (.c (.d (.bool false))),none,[]⟩]
def qIB:List VOper:=[
 ⟨some 32,.move (.t 5),none,[]⟩,
 ⟨some 33,.bin .add (.t 32) (.c (.d (.int .i64 1))),none,[]⟩,
 ⟨some 5,.move (.t 33),none,[]⟩]
def qGT:VCode:=(.seq (.seq (.region false 0 [2,3,5,31] qHc) (.cond (.t 31) .skip (.exit 0))) (.seq (.block 1 (.seq (.region true 0 [2,3,5,45] qIA) (.cond (.t 45) (.seq (.region false 0 [4] qIz) .ret) .skip))) (.region false 0 [2,3,5] qIB)))
def qIy:List VOper:=[
 ⟨some 4,.move (.c (.d (.bool true))),none,[]⟩]
def v3:VFn:=⟨2,[.tmp 4],(.seq (.region false 2 [2,3] qEQ) (.seq (.seq (.region false 0 [2,3,26] qEP) (.cond (.t 26) (.seq (.region false 0 [4] qEO) .ret) .skip)) (.seq (.seq (.region false 0 [2,3,5] qKO) (.block 0 (.loop [2,3,5] qGT))) (.seq (.region false 0 [4] qIy) .ret))))⟩
def qKN:List VOper:=[
 ⟨some 2,.box 0 (.t 0),none,[]⟩,
 ⟨some 3,.box 1 (.t 1),none,[]⟩,
 ⟨some 4,.move (.c (.d (.bool false))),none,[]⟩]
def qKM:List VOper:=[
 ⟨some 5,.load true 3 (.t 2),none,[]⟩,
 ⟨some 6,.load true 3 (.t 3),none,[]⟩,
 ⟨some 7,.call true (.c (.fn 6 [])) [.t 5,.t 6],none,[]⟩,
 ⟨some 8,.bin .eql (.t 7) (.c (.d (.int .i64 0))),none,[]⟩,
 ⟨some 4,.move (.t 8),none,[]⟩]
def v4:VFn:=⟨2,[.tmp 4],(.seq (.region false 2 [2,3] qKN) (.seq (.region false 0 [4] qKM) .ret))⟩
def qKL:List VOper:=[
 ⟨some 2,.box 0 (.t 0),none,[]⟩,
 ⟨some 3,.box 1 (.t 1),none,[]⟩,
 ⟨some 4,.move (.c (.d (.int .i64 0))),none,[]⟩]
def qKK:List VOper:=[
 ⟨some 9,.fieldAddr 0 (.t 2),none,[]⟩,
 ⟨some 10,.load false 1 (.t 9),none,[]⟩,
 ⟨some 11,.fieldAddr 0 (.t 3),none,[]⟩,
 ⟨some 12,.load false 1 (.t 11),none,[]⟩,
 ⟨some 13,.build [.int .i64 0,.int .i64 0] [(0,1,.t 10),(1,1,.t 12)],none,[]⟩,
 ⟨some 14,.fieldAddr 1 (.t 2),none,[]⟩,
 ⟨some 15,.load false 1 (.t 14),none,[]⟩,
 ⟨some 16,.fieldAddr 1 (.t 3),none,[]⟩,
 ⟨some 17,.load false 1 (.t 16),none,[]⟩,
 ⟨some 18,.build [.int .i64 0,.int .i64 0] [(0,1,.t 15),(1,1,.t 17)],none,[]⟩,
 ⟨some 19,.fieldAddr 2 (.t 2),none,[]⟩,
 ⟨some 20,.load false 1 (.t 19),none,[]⟩,
 ⟨some 21,.len false (.t 20),none,[]⟩,
 ⟨some 22,.fieldAddr 2 (.t 3),none,[]⟩,
 ⟨some 23,.load false 1 (.t 22),none,[]⟩,
 ⟨some 24,.len false (.t 23),none,[]⟩,
 ⟨some 25,.build [.int .i64 0,.int .i64 0] [(0,1,.t 21),(1,1,.t 24)],none,[]⟩,
 ⟨some 26,.buildSlice 2 (.agg [.int .i64 0,.int .i64 0]) 3 [(0,.t 13),(1,.t 18),(2,.t 25)],none,[]⟩,
 ⟨some 27,.len false (.t 26),none,[]⟩,
 ⟨some 28,.move (.c (.d (.int .i64 0))),none,[]⟩]
def qEr:List VOper:=[
 ⟨some 29,.bin .lss (.t 28) (.t 27),none,[]⟩]
def qHb:List VOper:=[
 ⟨some 30,.indexAddr 2 none (.t 26) (.t 28),none,[]⟩,
 ⟨some 31,.load true 2 (.t 30),none,[]⟩,
 ⟨some 6,.alloc 0 [.int .i64 0,.int .i64 0],none,[]⟩,
 ⟨none,.store false 2 (.t 6) (.t 31),none,[]⟩]
def qHa:List VOper:=[
 ⟨some 33,.indexAddr 1 (some 2) (.t 6) (.c (.d (.int .i64 0))),none,[]⟩,
 ⟨some 34,.load false 1 (.t 33),none,[]⟩,
 ⟨some 35,.indexAddr 1 (some 2) (.t 6) (.c (.d (.int .i64 1))),none,[]⟩,
 ⟨some 36,.load false 1 (.t 35),none,[]⟩,
 ⟨some 37,.bin .lss (.t 34) (.t 36),none,[]⟩,
 ⟨some 32,.move (.t 37),none,[]⟩]
def qG9:List VOper:=[
 ⟨some 4,.move (.c (.d (.int .i64 (-1)))),none,[]⟩]
def qIx:List VOper:=[
 ⟨some 39,.indexAddr 1 (some 2) (.t 6) (.c (.d (.int .i64 0))),none,[]⟩,
 ⟨some 40,.load false 1 (.t 39),none,[]⟩,
 ⟨some 41,.indexAddr 1 (some 2) (.t 6) (.c (.d (.int .i64 1))),none,[]⟩,
 ⟨some 42,.load false 1 (.t 41),none,[]⟩,
 ⟨some 43,.bin .gtr (.t 40) (.t 42),none,[]⟩,
 ⟨some 38,.move (.t 43),none,[]⟩]
def qIw:List VOper:=[
 ⟨some 4,.move (.c (.d (.int .i64 1))),none,[]⟩]
def qKJ:List VOper:=[
 ⟨some 44,.bin .add (.t 28) (.c (.d (.int .i64 1))),none,[]⟩,
 ⟨some 28,.move (.t 44),none,[]⟩]
def qCT:VCode:=(.seq (.region false 0 [2,3,26,27,28,29] qEr) (.seq (.cond (.t 29) .skip (.exit 0)) (.seq (.block 1 (.seq (.region false 1 [2,3,6,26,27,28] qHb) (.block 2 (.seq (.region false 0 [2,3,6,26,27,28,32] qHa) (.cond (.t 32) (.seq (.region false 0 [4] qG9) .ret) (.seq (.region false 0 [2,3,26,27,28,38] qIx) (.cond (.t 38) (.seq (.region false 0 [4] qIw) .ret) .skip))))))) (.region false 0 [2,3,26,27,28] qKJ))))
def qKI:List VOper:=[
 ⟨some 45,.fieldAddr 2 (.t 2),none,[]⟩,
 ⟨some 46,.load false 1 (.t 45),none,[]⟩,
 ⟨some 47,.len false (.t 46),none,[]⟩,
 ⟨some 48,.move (.c (.d (.int .i64 0))),none,[]⟩]
def qyp:List VOper:=[
 ⟨some 49,.bin .lss (.t 48) (.t 47),none,[]⟩]
def qBI:List VOper:=[
 ⟨some 50,.move (.t 48),none,[]⟩,
 ⟨some 7,.move (.t 50),none,[]⟩]
def qBH:List VOper:=[
 ⟨some 51,.fieldAddr 2 (.t 2),none,[]⟩,
 ⟨some 52,.load false 1 (.t 51),none,[0]⟩,
 ⟨some 53,.move (.t 7),none,[]⟩,
 ⟨some 54,.indexAddr 3 none (.t 52) (.t 53),none,[1,2]⟩,
 ⟨some 55,.load true 3 (.t 54),none,[3]⟩,
 ⟨some 56,.fieldAddr 2 (.t 3),none,[]⟩,
 ⟨some 57,.load false 1 (.t 56),none,[5]⟩,
 ⟨some 58,.move (.t 7),none,[]⟩,
 ⟨some 59,.indexAddr 3 none (.t 57) (.t 58),none,[6,7]⟩,
 ⟨some 60,.load true 3 (.t 59),none,[8]⟩,
 ⟨some 61,.call true (.c (.fn 6 [])) [.t 55,.t 60],none,[4,9]⟩,
 ⟨some 8,.move (.t 61),none,[0,1,2,3,4,5,6,7,8,9,10]⟩]
def qBG:List VOper:=[
 ⟨some 62,.move (.t 8),none,[]⟩,
 ⟨some 63,.bin .neq (.t 62) (.c (.d (.int .i64 0))),none,[]⟩]
def qBF:List VOper:=[
 ⟨some 64,.move (.t 8),none,[]⟩,
 ⟨some 4,.move (.t 64),none,[]⟩]
def qBE:List VOper:=[
 ⟨some 65,.bin .add (.t 48) (.c (.d (.int .i64 1))),none,[]⟩,
 ⟨some 48,.move (.t 65),none,[]⟩]
def qDn:VCode:=(.seq (.region false 0 [2,3,47,48,49] qyp) (.seq (.cond (.t 49) .skip (.exit 3)) (.seq (.block 4 (.seq (.region false 0 [2,3,7,47,48] qBI) (.seq (.region true 0 [2,3,8,47,48] qBH) (.seq (.region false 0 [2,3,8,47,48,63] qBG) (.cond (.t 63) (.seq (.region false 0 [4] qBF) .ret) .skip))))) (.region false 0 [2,3,47,48] qBE))))
def qEs:List VOper:=[
 ⟨some 4,.move (.c (.d (.int .i64 0))),none,[]⟩]
def v6:VFn:=⟨2,[.tmp 4],(.seq (.region false 2 [2,3] qKL) (.seq (.seq (.region false 0 [2,3,26,27,28] qKK) (.block 0 (.loop [2,3,26,27,28] qCT))) (.seq (.seq (.region false 0 [2,3,47,48] qKI) (.block 3 (.loop [2,3,47,48] qDn))) (.seq (.region false 0 [4] qEs) .ret))))⟩
def qrx:List VOper:=[
 ⟨some 4,.move (.c (.d (.int .i64 0))),none,[]⟩]
def qrw:List VOper:=[
 ⟨some 5,.move (.c (.d (.int .i64 0))),none,[]⟩]
def qrv:List VOper:=[
 ⟨some 6,.move (.t 5),none,[]⟩,
 ⟨some 7,.move (.t 0),none,[]⟩,
 ⟨some 8,.len false (.t 7),none,[]⟩,
 ⟨some 9,.bin .lss (.t 6) (.t 8),none,[]⟩]
def qrt:List VOper:=[
 ⟨some 12,.move (.t 0),none,[]⟩,
 ⟨some 13,.move (.t 5),none,[]⟩,
 ⟨some 14,.indexAddr 3 none (.t 12) (.t 13),none,[]⟩,
 ⟨some 15,.fieldAddr 0 (.t 14),none,[]⟩,
 ⟨some 16,.load false 1 (.t 15),none,[]⟩,
 ⟨some 17,.move (.t 1),none,[]⟩,
 ⟨some 18,.bin .eql (.t 16) (.t 17),none,[]⟩]
def qrs:List VOper:=[
 ⟨some 19,.move (.t 5),none,[]⟩,
 ⟨some 4,.move (.t 19),none,[]⟩]
def qru:List VOper:=[
 ⟨some 10,.move (.t 5),none,[]⟩,
 ⟨some 11,.bin .add (.t 10) (.c (.d (.int .i64 1))),none,[]⟩,
 ⟨some 5,.move (.t 11),none,[]⟩]
def qwH:VCode:=(.seq (.seq (.region false 0 [0,1,5,9] qrv) (.cond (.t 9) .skip (.exit 0))) (.seq (.block 1 (.seq (.region false 0 [0,1,5,18] qrt) (.cond (.t 18) (.seq (.region false 0 [4] qrs) .ret) .skip))) (.region false 0 [0,1,5] qru)))
def qrr:List VOper:=[
 ⟨some 4,.move (.c (.d (.int .i64 (-1)))),none,[]⟩]
def v13:VFn:=⟨2,[.tmp 4],(.seq (.region false 0 [0,1] qrx) (.seq (.seq (.region false 0 [0,1,5] qrw) (.block 0 (.loop [0,1,5] qwH))) (.seq (.region false 0 [4] qrr) .ret)))⟩
def qE8:List VOper:=[
 ⟨some 3,.box 0 (.t 1),none,[]⟩,
 ⟨some 4,.move (.c (.d (.int .i64 0))),none,[]⟩]
def qE7:List VOper:=[
 ⟨some 5,.move (.t 0),none,[]⟩,
 ⟨some 6,.makeFunc 18 [.t 3],none,[]⟩,
 ⟨some 7,.call false (.c (.fn 19 [])) [.t 5,.t 6],none,[]⟩,
 ⟨some 4,.move (.t 7),none,[]⟩]
def v14:VFn:=⟨2,[.tmp 4],(.seq (.region false 1 [0,3] qE8) (.seq (.region false 0 [4] qE7) .ret))⟩
def qE6:List VOper:=[
 ⟨some 2,.box 0 (.t 0),none,[]⟩,
 ⟨some 3,.move (.c (.d (.bool false))),none,[]⟩]
def qE5:List VOper:=[
 ⟨some 4,.fieldAddr 0 (.t 2),none,[]⟩,
 ⟨some 5,.load false 1 (.t 4),none,[]⟩,
 ⟨some 6,.load false 1 (.t 1),none,[]⟩,
 ⟨some 7,.bin .eql (.t 5) (.t 6),none,[]⟩,
 ⟨some 3,.move (.t 7),none,[]⟩]
def v18:VFn:=⟨2,[.tmp 3],(.seq (.region false 1 [1,2] qE6) (.seq (.region false 0 [3] qE5) .ret))⟩
def qrq:List VOper:=[
 ⟨some 4,.move (.c (.d (.int .i64 0))),none,[]⟩]
def qrp:List VOper:=[
 ⟨some 6,.move (.t 0),none,[]⟩,
 ⟨some 7,.len false (.t 6),none,[]⟩,
 ⟨some 8,.move (.c (.d (.int .i64 0))),none,[]⟩]
def qro:List VOper:=[
 ⟨some 9,.bin .lss (.t 8) (.t 7),none,[]⟩]
def qrn:List VOper:=[
 ⟨some 10,.move (.t 8),none,[]⟩,
 ⟨some 5,.move (.t 10),none,[]⟩]
def qrm:List VOper:=[
 ⟨some 11,.move (.t 1),none,[]⟩,
 ⟨some 12,.move (.t 0),none,[]⟩,
 ⟨some 13,.move (.t 5),none,[]⟩,
 ⟨some 14,.indexAddr 3 none (.t 12) (.t 13),none,[]⟩,
 ⟨some 15,.load true 3 (.t 14),none,[]⟩,
 ⟨some 16,.call false (.t 11) [.t 15],none,[]⟩]
def qrl:List VOper:=[
 ⟨some 17,.move (.t 5),none,[]⟩,
 ⟨some 4,.move (.t 17),none,[]⟩]
def qrk:List VOper:=[
 ⟨some 18,.bin .add (.t 8) (.c (.d (.int .i64 1))),none,[]⟩,
 ⟨some 8,.move (.t 18),none,[]⟩]
def qwG:VCode:=(.seq (.region false 0 [0,1,7,8,9] qro) (.seq (.cond (.t 9) .skip (.exit 0)) (.seq (.block 1 (.seq (.region false 0 [0,1,5,7,8] qrn) (.seq (.region false 0 [0,1,5,7,8,16] qrm) (.cond (.t 16) (.seq (.region false 0 [4] qrl) .ret) .skip)))) (.region false 0 [0,1,7,8] qrk))))
def qrj:List VOper:=[
 ⟨some 4,.move (.c (.d (.int .i64 (-1)))),none,[]⟩]
def v19:VFn:=⟨2,[.tmp 4],(.seq (.region false 0 [0,1] qrq) (.seq (.seq (.region false 0 [0,1,7,8] qrp) (.block 0 (.loop [0,1,7,8] qwG))) (.seq (.region false 0 [4] qrj) .ret)))⟩
def qE4:List VOper:=[
 ⟨some 1,.box 0 (.t 0),none,[]⟩,
 ⟨some 2,.move (.c (.d (.int .i64 0))),none,[]⟩]
def qE3:List VOper:=[
 ⟨some 3,.move (.c (.d (.int .i64 1))),none,[]⟩]
def qE2:List VOper:=[
 ⟨some 4,.move (.c (.d (.int .i64 0))),none,[]⟩]
def qBZ:List VOper:=[
 ⟨some 5,.move (.t 4),none,[]⟩,
 ⟨some 6,.fieldAddr 2 (.t 1),none,[]⟩,
 ⟨some 7,.load false 1 (.t 6),none,[]⟩,
 ⟨some 8,.len false (.t 7),none,[]⟩,
 ⟨some 9,.bin .lss (.t 5) (.t 8),none,[]⟩]
def qE0:List VOper:=[
 ⟨some 12,.move (.t 3),none,[]⟩,
 ⟨some 13,.fieldAddr 2 (.t 1),none,[]⟩,
 ⟨some 14,.load false 1 (.t 13),none,[]⟩,
 ⟨some 15,.move (.t 4),none,[]⟩,
 ⟨some 16,.indexAddr 3 none (.t 14) (.t 15),none,[]⟩,
 ⟨some 17,.load true 3 (.t 16),none,[]⟩,
 ⟨some 18,.call true (.c (.fn 22 [])) [.t 17],none,[]⟩,
 ⟨some 19,.bin .add (.t 12) (.t 18),none,[]⟩,
 ⟨some 3,.move (.t 19),none,[]⟩]
def qE1:List VOper:=[
 ⟨some 10,.move (.t 4),none,[]⟩,
 ⟨some 11,.bin .add (.t 10) (.c (.d (.int .i64 1))),none,[]⟩,
 ⟨some 4,.move (.t 11),none,[]⟩]
def qy9:VCode:=(.seq (.seq (.region false 0 [1,3,4,9] qBZ) (.cond (.t 9) .skip (.exit 0))) (.seq (.block 1 (.region false 0 [1,3,4] qE0)) (.region false 0 [1,3,4] qE1)))
def qEZ:List VOper:=[
 ⟨some 20,.move (.t 3),none,[]⟩,
 ⟨some 2,.move (.t 20),none,[]⟩]
def v22:VFn:=⟨1,[.tmp 2],(.seq (.region false 1 [1] qE4) (.seq (.region false 0 [1,3] qE3) (.seq (.seq (.region false 0 [1,3,4] qE2) (.block 0 (.loop [1,3,4] qy9))) (.seq (.region false 0 [2] qEZ) .ret))))⟩
def qEY:List VOper:=[
 ⟨some 1,.box 0 (.t 0),none,[]⟩,
 ⟨some 2,.move (.c (.d (.int .i64 0))),none,[]⟩]
def qEX:List VOper:=[
 ⟨some 3,.alloc 0 [.int .i64 0],none,[]⟩,
 ⟨none,.store false 1 (.t 3) (.c (.d (.int .i64 0))),none,[]⟩]
def qEW:List VOper:=[
 ⟨some 4,.load true 3 (.t 1),none,[]⟩,
 ⟨some 5,.makeFunc 24 [.t 3],none,[]⟩,
 ⟨some 6,.call false (.c (.fn 25 [])) [.t 4,.t 5],none,[]⟩]
def qEV:List VOper:=[
 ⟨some 7,.load false 1 (.t 3),none,[]⟩,
 ⟨some 2,.move (.t 7),none,[]⟩]
def v23:VFn:=⟨1,[.tmp 2],(.seq (.region false 1 [1] qEY) (.seq (.region false 1 [1,3] qEX) (.seq (.region false 0 [3] qEW) (.seq (.region false 0 [2] qEV) .ret))))⟩
def qEU:List VOper:=[
 ⟨some 2,.box 0 (.t 0),none,[]⟩]
def qET:List VOper:=[
 ⟨some 3,.load false 1 (.t 1),none,[]⟩,
 ⟨some 4,.bin .add (.t 3) (.c (.d (.int .i64 1))),none,[]⟩,
 ⟨none,.store false 1 (.t 1) (.t 4),none,[]⟩]
def v24:VFn:=⟨2,[],(.seq (.region false 1 [1] qEU) (.region false 0 [] qET))⟩
def qBY:List VOper:=[
 ⟨some 2,.box 0 (.t 0),none,[]⟩]
def qBX:List VOper:=[
 ⟨some 6,.move (.t 1),none,[]⟩,
 ⟨some 7,.load true 3 (.t 2),none,[]⟩,
 ⟨some 8,.call false (.t 6) [.t 7],none,[]⟩]
def qBW:List VOper:=[
 ⟨some 9,.fieldAddr 2 (.t 2),none,[]⟩,
 ⟨some 10,.load false 1 (.t 9),none,[]⟩,
 ⟨some 11,.len false (.t 10),none,[]⟩,
 ⟨some 12,.move (.c (.d (.int .i64 0))),none,[]⟩]
def qun:List VOper:=[
 ⟨some 13,.bin .lss (.t 12) (.t 11),none,[]⟩]
def qBV:List VOper:=[
 ⟨some 14,.indexAddr 3 none (.t 10) (.t 12),none,[]⟩,
 ⟨some 15,.load true 3 (.t 14),none,[]⟩,
 ⟨some 5,.alloc 0 [.int .i64 0,.int .i64 0,.sl .nil []],none,[]⟩,
 ⟨none,.store false 3 (.t 5) (.t 15),none,[]⟩]
def qBU:List VOper:=[
 ⟨some 16,.load true 3 (.t 5),none,[]⟩,
 ⟨some 17,.move (.t 1),none,[]⟩,
 ⟨some 18,.call false (.c (.fn 25 [])) [.t 16,.t 17],none,[]⟩]
def qBT:List VOper:=[
 ⟨some 19,.bin .add (.t 12) (.c (.d (.int .i64 1))),none,[]⟩,
 ⟨some 12,.move (.t 19),none,[]⟩]
def qoL:VCode:=(.seq (.region false 0 [1,10,11,12,13] qun) (.seq (.cond (.t 13) .skip (.exit 0)) (.seq (.block 1 (.seq (.region false 1 [1,5,10,11,12] qBV) (.region false 0 [1,10,11,12] qBU))) (.region false 0 [1,10,11,12] qBT))))
def v25:VFn:=⟨2,[],(.seq (.region false 1 [1,2] qBY) (.seq (.region false 0 [1,2] qBX) (.seq (.region false 0 [1,10,11,12] qBW) (.block 0 (.loop [1,10,11,12] qoL)))))⟩
def qES:List VOper:=[
 ⟨some 4,.move (.c (.d (.bool false))),none,[]⟩]
def qER:List VOper:=[
 ⟨some 5,.move (.t 1),none,[]⟩,
 ⟨some 6,.move (.t 0),none,[]⟩,
 ⟨some 7,.len false (.t 6),none,[]⟩,
 ⟨some 8,.bin .sub (.t 7) (.c (.d (.int .i64 1))),none,[]⟩,
 ⟨some 9,.call true (.c (.fn 30 [])) [.t 5,.c (.d (.int .i64 0)),.t 8],none,[]⟩,
 ⟨some 4,.move (.t 9),none,[]⟩]
def v29:VFn:=⟨2,[.tmp 4],(.seq (.region false 0 [0,1] qES) (.seq (.region false 0 [4] qER) .ret))⟩
def qBS:List VOper:=[
 ⟨some 6,.move (.c (.d (.bool false))),none,[]⟩]
def qBR:List VOper:=[
 ⟨some 7,.move (.t 0),none,[]⟩,
 ⟨some 8,.move (.t 1),none,[]⟩,
 ⟨some 9,.bin .geq (.t 7) (.t 8),none,[]⟩,
 ⟨some 10,.move (.t 9),none,[]⟩,
 ⟨some 11,.move (.t 0),some (10,true),[]⟩,
 ⟨some 12,.move (.t 2),some (10,true),[]⟩,
 ⟨some 13,.bin .leq (.t 11) (.t 12),some (10,true),[]⟩,
 ⟨some 14,.pick (.t 10) (.t 13) (.c (.d (.bool false))),none,[]⟩,
 ⟨some 6,.move (.t 14),none,[]⟩]
def v30:VFn:=⟨3,[.tmp 6],(.seq (.region false 0 [0,1,2] qBS) (.seq (.region false 0 [6] qBR) .ret))⟩
def qBQ:List VOper:=[
 ⟨some 6,.move (.c (.d (.bool false))),none,[]⟩]
def qBP:List VOper:=[
 ⟨some 7,.move (.t 0),none,[]⟩,
 ⟨some 8,.move (.t 1),none,[]⟩,
 ⟨some 9,.bin .geq (.t 7) (.t 8),none,[]⟩,
 ⟨some 10,.move (.t 9),none,[]⟩,
 ⟨some 11,.move (.t 0),some (10,true),[]⟩,
 ⟨some 12,.move (.t 2),some (10,true),[]⟩,
 ⟨some 13,.bin .leq (.t 11) (.t 12),some (10,true),[]⟩,
 ⟨some 14,.pick (.t 10) (.t 13) (.c (.d (.bool false))),none,[]⟩,
 ⟨some 6,.move (.t 14),none,[]⟩]
def v31:VFn:=⟨3,[.tmp 6],(.seq (.region false 0 [0,1,2] qBQ) (.seq (.region false 0 [6] qBP) .ret))⟩
def qBO:List VOper:=[
 ⟨some 4,.move (.c (.d (.bool false))),none,[]⟩]
def qBN:List VOper:=[
 ⟨some 5,.move (.t 1),none,[]⟩,
 ⟨some 6,.move (.t 0),none,[]⟩,
 ⟨some 7,.len false (.t 6),none,[]⟩,
 ⟨some 8,.bin .sub (.t 7) (.c (.d (.int .i64 1))),none,[]⟩,
 ⟨some 9,.call true (.c (.fn 31 [])) [.t 5,.c (.d (.int .i64 0)),.t 8],none,[]⟩,
 ⟨some 10,.move (.t 9),none,[]⟩,
 ⟨some 11,.move (.t 0),some (10,true),[]⟩,
 ⟨some 12,.move (.t 1),some (10,true),[]⟩,
 ⟨some 13,.indexAddr 3 none (.t 11) (.t 12),some (10,true),[]⟩,
 ⟨some 14,.fieldAddr 2 (.t 13),some (10,true),[]⟩,
 ⟨some 15,.load false 1 (.t 14),some (10,true),[]⟩,
 ⟨some 16,.pick (.t 10) (.t 15) (.c (.d (.bool false))),none,[]⟩,
 ⟨some 4,.move (.t 16),none,[]⟩]
def v33:VFn:=⟨2,[.tmp 4],(.seq (.region false 0 [0,1] qBO) (.seq (.region false 0 [4] qBN) .ret))⟩
def qBM:List VOper:=[
 ⟨some 4,.move (.c (.d (.bool false))),none,[]⟩]
def qBL:List VOper:=[
 ⟨some 5,.move (.t 0),none,[]⟩,
 ⟨some 6,.move (.t 1),none,[]⟩,
 ⟨some 7,.call true (.c (.fn 29 [])) [.t 5,.t 6],none,[]⟩,
 ⟨some 8,.move (.t 7),none,[]⟩,
 ⟨some 9,.move (.t 0),some (8,true),[]⟩,
 ⟨some 10,.move (.t 1),some (8,true),[]⟩,
 ⟨some 11,.indexAddr 3 none (.t 9) (.t 10),some (8,true),[]⟩,
 ⟨some 12,.fieldAddr 2 (.t 11),some (8,true),[]⟩,
 ⟨some 13,.load false 1 (.t 12),some (8,true),[]⟩,
 ⟨some 14,.pick (.t 8) (.t 13) (.c (.d (.bool false))),none,[]⟩,
 ⟨some 4,.move (.t 14),none,[]⟩]
def v34:VFn:=⟨2,[.tmp 4],(.seq (.region false 0 [0,1] qBM) (.seq (.region false 0 [4] qBL) .ret))⟩
def qri:List VOper:=[
 ⟨some 4,.move (.c (.d (.int .i64 0))),none,[]⟩]
def qrh:List VOper:=[
 ⟨some 6,.move (.t 0),none,[]⟩,
 ⟨some 7,.len false (.t 6),none,[]⟩,
 ⟨some 8,.move (.c (.d (.int .i64 0))),none,[]⟩]
def qrg:List VOper:=[
 ⟨some 9,.bin .lss (.t 8) (.t 7),none,[]⟩]
def qrf:List VOper:=[
 ⟨some 10,.move (.t 8),none,[]⟩,
 ⟨some 5,.move (.t 10),none,[]⟩]
def qre:List VOper:=[
 ⟨some 11,.move (.t 1),none,[]⟩,
 ⟨some 12,.move (.t 0),none,[]⟩,
 ⟨some 13,.move (.t 5),none,[]⟩,
 ⟨some 14,.indexAddr 1 none (.t 12) (.t 13),none,[]⟩,
 ⟨some 15,.load false 1 (.t 14),none,[]⟩,
 ⟨some 16,.call false (.t 11) [.t 15],none,[]⟩]
def qrd:List VOper:=[
 ⟨some 17,.move (.t 5),none,[]⟩,
 ⟨some 4,.move (.t 17),none,[]⟩]
def qrc:List VOper:=[
 ⟨some 18,.bin .add (.t 8) (.c (.d (.int .i64 1))),none,[]⟩,
 ⟨some 8,.move (.t 18),none,[]⟩]
def qwF:VCode:=(.seq (.region false 0 [0,1,7,8,9] qrg) (.seq (.cond (.t 9) .skip (.exit 0)) (.seq (.block 1 (.seq (.region false 0 [0,1,5,7,8] qrf) (.seq (.region false 0 [0,1,5,7,8,16] qre) (.cond (.t 16) (.seq (.region false 0 [4] qrd) .ret) .skip)))) (.region false 0 [0,1,7,8] qrc))))
def qrb:List VOper:=[
 ⟨some 4,.move (.c (.d (.int .i64 (-1)))),none,[]⟩]
def v47:VFn:=⟨2,[.tmp 4],(.seq (.region false 0 [0,1] qri) (.seq (.seq (.region false 0 [0,1,7,8] qrh) (.block 0 (.loop [0,1,7,8] qwF))) (.seq (.region false 0 [4] qrb) .ret)))⟩
def qn8:List VOper:=[
 ⟨some 4,.move (.c (.d (.bool false))),none,[]⟩]
def qn7:List VOper:=[
 ⟨some 5,.move (.c (.d (.int .i64 0))),none,[]⟩]
def qn6:List VOper:=[
 ⟨some 6,.move (.t 5),none,[]⟩,
 ⟨some 7,.move (.t 0),none,[]⟩,
 ⟨some 8,.len false (.t 7),none,[]⟩,
 ⟨some 9,.bin .lss (.t 6) (.t 8),none,[]⟩]
def qn4:List VOper:=[
 ⟨some 12,.move (.t 0),none,[]⟩,
 ⟨some 13,.move (.t 5),none,[]⟩,
 ⟨some 14,.indexAddr 1 none (.t 12) (.t 13),none,[]⟩,
 ⟨some 15,.load false 1 (.t 14),none,[]⟩,
 ⟨some 16,.move (.t 1),none,[]⟩,
 ⟨some 17,.bin .eql (.t 15) (.t 16),none,[]⟩]
def qn3:List VOper:=[
 ⟨some 4,.move (.c (.d (.bool true))),none,[]⟩]
def qn5:List VOper:=[
 ⟨some 10,.move (.t 5),none,[]⟩,
 ⟨some 11,.bin .add (.t 10) (.c (.d (.int .i64 1))),none,[]⟩,
 ⟨some 5,.move (.t 11),none,[]⟩]
def qwE:VCode:=(.seq (.seq (.region false 0 [0,1,5,9] qn6) (.cond (.t 9) .skip (.exit 0))) (.seq (.block 1 (.seq (.region false 0 [0,1,5,17] qn4) (.cond (.t 17) (.seq (.region false 0 [4] qn3) .ret) .skip))) (.region false 0 [0,1,5] qn5)))
def qn2:List VOper:=[
 ⟨some 4,.move (.c (.d (.bool false))),none,[]⟩]
def v53:VFn:=⟨2,[.tmp 4],(.seq (.region false 0 [0,1] qn8) (.seq (.seq (.region false 0 [0,1,5] qn7) (.block 0 (.loop [0,1,5] qwE))) (.seq (.region false 0 [4] qn2) .ret)))⟩
def qEN:List VOper:=[
 ⟨some 4,.move (.c (.d (.bool false))),none,[]⟩]
def qEM:List VOper:=[
 ⟨some 5,.move (.t 0),none,[]⟩,
 ⟨some 6,.move (.t 1),none,[]⟩,
 ⟨some 7,.call true (.c (.fn 55 [])) [.t 5,.t 6],none,[]⟩,
 ⟨some 4,.move (.t 7),none,[]⟩]
def v54:VFn:=⟨2,[.tmp 4],(.seq (.region false 0 [0,1] qEN) (.seq (.region false 0 [4] qEM) .ret))⟩
def qEL:List VOper:=[
 ⟨some 4,.move (.c (.d (.bool false))),none,[]⟩]
def qEK:List VOper:=[
 ⟨some 5,.move (.t 0),none,[]⟩,
 ⟨some 6,.move (.t 1),none,[]⟩,
 ⟨some 7,.call true (.c (.fn 56 [])) [.t 5,.t 6],none,[]⟩,
 ⟨some 8,.bin .geq (.t 7) (.c (.d (.int .i64 0))),none,[]⟩,
 ⟨some 4,.move (.t 8),none,[]⟩]
def v55:VFn:=⟨2,[.tmp 4],(.seq (.region false 0 [0,1] qEL) (.seq (.region false 0 [4] qEK) .ret))⟩
def qra:List VOper:=[
 ⟨some 4,.move (.c (.d (.int .i64 0))),none,[]⟩]
def qq9:List VOper:=[
 ⟨some 6,.move (.t 0),none,[]⟩,
 ⟨some 7,.len false (.t 6),none,[]⟩,
 ⟨some 8,.move (.c (.d (.int .i64 0))),none,[]⟩]
def qq8:List VOper:=[
 ⟨some 9,.bin .lss (.t 8) (.t 7),none,[]⟩]
def qq7:List VOper:=[
 ⟨some 10,.move (.t 8),none,[]⟩,
 ⟨some 5,.move (.t 10),none,[]⟩]
def qq6:List VOper:=[
 ⟨some 11,.move (.t 1),none,[]⟩,
 ⟨some 12,.move (.t 0),none,[]⟩,
 ⟨some 13,.move (.t 5),none,[]⟩,
 ⟨some 14,.indexAddr 1 none (.t 12) (.t 13),none,[]⟩,
 ⟨some 15,.load false 1 (.t 14),none,[]⟩,
 ⟨some 16,.bin .eql (.t 11) (.t 15),none,[]⟩]
def qq5:List VOper:=[
 ⟨some 17,.move (.t 5),none,[]⟩,
 ⟨some 4,.move (.t 17),none,[]⟩]
def qq4:List VOper:=[
 ⟨some 18,.bin .add (.t 8) (.c (.d (.int .i64 1))),none,[]⟩,
 ⟨some 8,.move (.t 18),none,[]⟩]
def qwD:VCode:=(.seq (.region false 0 [0,1,7,8,9] qq8) (.seq (.cond (.t 9) .skip (.exit 0)) (.seq (.block 1 (.seq (.region false 0 [0,1,5,7,8] qq7) (.seq (.region false 0 [0,1,5,7,8,16] qq6) (.cond (.t 16) (.seq (.region false 0 [4] qq5) .ret) .skip)))) (.region false 0 [0,1,7,8] qq4))))
def qq3:List VOper:=[
 ⟨some 4,.move (.c (.d (.int .i64 (-1)))),none,[]⟩]
def v56:VFn:=⟨2,[.tmp 4],(.seq (.region false 0 [0,1] qra) (.seq (.seq (.region false 0 [0,1,7,8] qq9) (.block 0 (.loop [0,1,7,8] qwD))) (.seq (.region false 0 [4] qq3) .ret)))⟩
def qEJ:List VOper:=[
 ⟨some 2,.move (.c (.d (.bool false))),none,[]⟩]
def qEI:List VOper:=[
 ⟨some 3,.move (.c (.d (.int .i64 0))),none,[]⟩]
def qBK:List VOper:=[
 ⟨some 4,.move (.t 3),none,[]⟩,
 ⟨some 5,.move (.t 0),none,[]⟩,
 ⟨some 6,.len true (.t 5),none,[]⟩,
 ⟨some 7,.bin .lss (.t 4) (.t 6),none,[]⟩]
def qEG:List VOper:=[
 ⟨some 10,.move (.t 0),none,[]⟩,
 ⟨some 11,.move (.t 3),none,[]⟩,
 ⟨some 12,.index (.t 10) (.t 11),none,[]⟩,
 ⟨some 13,.bin .geq (.t 12) (.c (.d (.int .u8 97))),none,[]⟩,
 ⟨some 14,.move (.t 13),none,[]⟩,
 ⟨some 15,.move (.t 0),some (14,true),[]⟩,
 ⟨some 16,.move (.t 3),some (14,true),[]⟩,
 ⟨some 17,.index (.t 15) (.t 16),some (14,true),[]⟩,
 ⟨some 18,.bin .leq (.t 17) (.c (.d (.int .u8 122))),some (14,true),[]⟩,
 ⟨some 19,.pick (.t 14) (.t 18) (.c (.d (.bool false))),none,[]⟩,
 ⟨some 20,.move (.t 19),none,[]⟩,
 ⟨some 21,.move (.t 3),some (20,false),[]⟩,
 ⟨some 22,.bin .gtr (.t 21) (.c (.d (.int .i64 0))),some (20,false),[]⟩,
 ⟨some 23,.move (.t 22),some (20,false),[]⟩,
 ⟨some 24,.move (.t 0),some (23,true),[]⟩,
 ⟨some 25,.move (.t 3),some (23,true),[]⟩,
 ⟨some 26,.index (.t 24) (.t 25),some (23,true),[]⟩,
 ⟨some 27,.bin .geq (.t 26) (.c (.d (.int .u8 48))),some (23,true),[]⟩,
 ⟨some 28,.pick (.t 23) (.t 27) (.c (.d (.bool false))),some (20,false),[]⟩,
 ⟨some 29,.move (.t 28),some (20,false),[]⟩,
 ⟨some 30,.move (.t 0),some (29,true),[]⟩,
 ⟨some 31,.move (.t 3),some (29,true),[]⟩,
 ⟨some 32,.index (.t 30) (.t 31),some (29,true),[]⟩,
 ⟨some 33,.bin .leq (.t 32) (.c (.d (.int .u8 57))),some (29,true),[]⟩,
 ⟨some 34,.pick (.t 29) (.t 33) (.c (.d (.bool false))),some (20,false),[]⟩,
 ⟨some 35,.pick (.t 20) (.c (.d (.bool true))) (.t 34),none,[]⟩,
 ⟨some 36,.not (.t 35),none,[]⟩]
def qEF:List VOper:=[
 ⟨some 2,.move (.c (.d (.bool false))),none,[]⟩]
def qEH:List VOper:=[
 ⟨some 8,.move (.t 3),none,[]⟩,
 ⟨some 9,.bin .add (.t 8) (.c (.d (.int .i64 1))),none,[]⟩,
 ⟨some 3,.move (.t 9),none,[]⟩]
def qwC:VCode:=(.seq (.seq (.region false 0 [0,3,7] qBK) (.cond (.t 7) .skip (.exit 0))) (.seq (.block 1 (.seq (.region false 0 [0,3,36] qEG) (.cond (.t 36) (.seq (.region false 0 [2] qEF) .ret) .skip))) (.region false 0 [0,3] qEH)))
def qEE:List VOper:=[
 ⟨some 37,.move (.t 0),none,[]⟩,
 ⟨some 38,.len true (.t 37),none,[]⟩,
 ⟨some 39,.call true (.c (.fn 31 [])) [.t 38,.c (.d (.int .i64 1)),.c (.d (.int .i64 8))],none,[]⟩,
 ⟨some 2,.move (.t 39),none,[]⟩]
def v59:VFn:=⟨1,[.tmp 2],(.seq (.region false 0 [0] qEJ) (.seq (.seq (.region false 0 [0,3] qEI) (.block 0 (.loop [0,3] qwC))) (.seq (.region false 0 [2] qEE) .ret)))⟩
def qED:List VOper:=[
 ⟨some 2,.move (.c (.d (.bool false))),none,[]⟩]
def qEC:List VOper:=[
 ⟨some 4,.move (.t 0),none,[]⟩,
 ⟨some 5,.len true (.t 4),none,[]⟩,
 ⟨some 6,.move (.c (.d (.int .i64 0))),none,[]⟩]
def qBJ:List VOper:=[
 ⟨some 7,.bin .lss (.t 6) (.t 5),none,[]⟩]
def qEB:List VOper:=[
 ⟨some 8,.move (.t 6),none,[]⟩,
 ⟨some 3,.move (.t 8),none,[]⟩]
def qEA:List VOper:=[
 ⟨some 9,.move (.t 0),none,[]⟩,
 ⟨some 10,.move (.t 3),none,[]⟩,
 ⟨some 11,.index (.t 9) (.t 10),none,[]⟩,
 ⟨some 12,.call true (.c (.fn 61 [])) [.t 11],none,[]⟩,
 ⟨some 13,.not (.t 12),none,[]⟩,
 ⟨some 14,.move (.t 13),none,[]⟩,
 ⟨some 15,.move (.t 0),some (14,true),[]⟩,
 ⟨some 16,.move (.t 3),some (14,true),[]⟩,
 ⟨some 17,.index (.t 15) (.t 16),some (14,true),[]⟩,
 ⟨some 18,.call true (.c (.fn 62 [])) [.t 17],some (14,true),[]⟩,
 ⟨some 19,.not (.t 18),some (14,true),[]⟩,
 ⟨some 20,.pick (.t 14) (.t 19) (.c (.d (.bool false))),none,[]⟩]
def qEz:List VOper:=[
 ⟨some 2,.move (.c (.d (.bool false))),none,[]⟩]
def qEy:List VOper:=[
 ⟨some 21,.bin .add (.t 6) (.c (.d (.int .i64 1))),none,[]⟩,
 ⟨some 6,.move (.t 21),none,[]⟩]
def qwB:VCode:=(.seq (.region false 0 [0,5,6,7] qBJ) (.seq (.cond (.t 7) .skip (.exit 0)) (.seq (.block 1 (.seq (.region false 0 [0,3,5,6] qEB) (.seq (.region false 0 [0,5,6,20] qEA) (.cond (.t 20) (.seq (.region false 0 [2] qEz) .ret) .skip)))) (.region false 0 [0,5,6] qEy))))
def qEx:List VOper:=[
 ⟨some 22,.move (.t 0),none,[]⟩,
 ⟨some 23,.len true (.t 22),none,[]⟩,
 ⟨some 24,.call true (.c (.fn 30 [])) [.t 23,.c (.d (.int .i64 1)),.c (.d (.int .i64 8))],none,[]⟩,
 ⟨some 25,.move (.t 24),none,[]⟩,
 ⟨some 26,.move (.t 0),some (25,true),[]⟩,
 ⟨some 27,.index (.t 26) (.c (.d (.int .i64 0))),some (25,true),[]⟩,
 ⟨some 28,.call true (.c (.fn 61 [])) [.t 27],some (25,true),[]⟩,
 ⟨some 29,.pick (.t 25) (.t 28) (.c (.d (.bool false))),none,[]⟩,
 ⟨some 2,.move (.t 29),none,[]⟩]
def v60:VFn:=⟨1,[.tmp 2],(.seq (.region false 0 [0] qED) (.seq (.seq (.region false 0 [0,5,6] qEC) (.block 0 (.loop [0,5,6] qwB))) (.seq (.region false 0 [2] qEx) .ret)))⟩
def qEw:List VOper:=[
 ⟨some 2,.move (.c (.d (.bool false))),none,[]⟩]
def qEv:List VOper:=[
 ⟨some 3,.move (.t 0),none,[]⟩,
 ⟨some 4,.bin .geq (.t 3) (.c (.d (.int .u8 97))),none,[]⟩,
 ⟨some 5,.move (.t 4),none,[]⟩,
 ⟨some 6,.move (.t 0),some (5,true),[]⟩,
 ⟨some 7,.bin .leq (.t 6) (.c (.d (.int .u8 122))),some (5,true),[]⟩,
 ⟨some 8,.pick (.t 5) (.t 7) (.c (.d (.bool false))),none,[]⟩,
 ⟨some 2,.move (.t 8),none,[]⟩]
def v61:VFn:=⟨1,[.tmp 2],(.seq (.region false 0 [0] qEw) (.seq (.region false 0 [2] qEv) .ret))⟩
def qEu:List VOper:=[
 ⟨some 2,.move (.c (.d (.bool false))),none,[]⟩]
def qEt:List VOper:=[
 ⟨some 3,.move (.t 0),none,[]⟩,
 ⟨some 4,.bin .geq (.t 3) (.c (.d (.int .u8 48))),none,[]⟩,
 ⟨some 5,.move (.t 4),none,[]⟩,
 ⟨some 6,.move (.t 0),some (5,true),[]⟩,
 ⟨some 7,.bin .leq (.t 6) (.c (.d (.int .u8 57))),some (5,true),[]⟩,
 ⟨some 8,.pick (.t 5) (.t 7) (.c (.d (.bool false))),none,[]⟩,
 ⟨some 2,.move (.t 8),none,[]⟩]
def v62:VFn:=⟨1,[.tmp 2],(.seq (.region false 0 [0] qEu) (.seq (.region false 0 [2] qEt) .ret))⟩
def qyo:List VOper:=[
 ⟨some 3,.box 0 (.t 1),none,[]⟩,
 ⟨some 4,.move (.c (.d (.bool false))),none,[]⟩]
def qyn:List VOper:=[
 ⟨some 5,.move (.t 0),none,[]⟩,
 ⟨some 6,.call true (.c (.fn 77 [])) [.t 5],none,[]⟩,
 ⟨some 7,.move (.t 6),none,[]⟩,
 ⟨some 8,.load true 3 (.t 3),some (7,true),[]⟩,
 ⟨some 9,.call true (.c (.fn 23 [])) [.t 8],some (7,true),[]⟩,
 ⟨some 10,.bin .leq (.t 9) (.c (.d (.int .i64 60))),some (7,true),[]⟩,
 ⟨some 11,.pick (.t 7) (.t 10) (.c (.d (.bool false))),none,[]⟩,
 ⟨some 12,.move (.t 11),none,[]⟩,
 ⟨some 13,.move (.t 0),some (12,true),[]⟩,
 ⟨some 14,.load true 3 (.t 3),some (12,true),[]⟩,
 ⟨some 15,.call true (.c (.fn 78 [])) [.t 13,.t 14],some (12,true),[]⟩,
 ⟨some 16,.pick (.t 12) (.t 15) (.c (.d (.bool false))),none,[]⟩,
 ⟨some 4,.move (.t 16),none,[]⟩]
def v70:VFn:=⟨2,[.tmp 4],(.seq (.region false 1 [0,3] qyo) (.seq (.region false 0 [4] qyn) .ret))⟩
def qEq:List VOper:=[
 ⟨some 2,.box 0 (.t 0),none,[]⟩,
 ⟨some 3,.box 1 (.t 1),none,[]⟩,
 ⟨some 4,.move (.c (.d (.int .i64 0))),none,[]⟩]
def qEp:List VOper:=[
 ⟨some 5,.alloc 0 [.int .i64 0],none,[]⟩,
 ⟨none,.store false 1 (.t 5) (.c (.d (.int .i64 0))),none,[]⟩]
def qEo:List VOper:=[
 ⟨some 6,.load true 3 (.t 2),none,[]⟩,
 ⟨some 7,.makeFunc 74 [.t 3,.t 5],none,[]⟩,
 ⟨some 8,.call false (.c (.fn 25 [])) [.t 6,.t 7],none,[]⟩]
def qEn:List VOper:=[
 ⟨some 9,.load false 1 (.t 5),none,[]⟩,
 ⟨some 4,.move (.t 9),none,[]⟩]
def v73:VFn:=⟨2,[.tmp 4],(.seq (.region false 2 [2,3] qEq) (.seq (.region false 1 [2,3,5] qEp) (.seq (.region false 0 [5] qEo) (.seq (.region false 0 [4] qEn) .ret))))⟩
def qym:List VOper:=[
 ⟨some 3,.box 0 (.t 0),none,[]⟩]
def qyl:List VOper:=[
 ⟨some 4,.load true 3 (.t 3),none,[]⟩,
 ⟨some 5,.call true (.c (.fn 75 [])) [.t 4],none,[]⟩,
 ⟨some 6,.move (.t 5),none,[]⟩,
 ⟨some 7,.fieldAddr 1 (.t 3),some (6,true),[]⟩,
 ⟨some 8,.load false 1 (.t 7),some (6,true),[]⟩,
 ⟨some 9,.load false 1 (.t 1),some (6,true),[]⟩,
 ⟨some 10,.bin .eql (.t 8) (.t 9),some (6,true),[]⟩,
 ⟨some 11,.pick (.t 6) (.t 10) (.c (.d (.bool false))),none,[]⟩]
def qyk:List VOper:=[
 ⟨some 12,.load false 1 (.t 2),none,[]⟩,
 ⟨some 13,.bin .add (.t 12) (.c (.d (.int .i64 1))),none,[]⟩,
 ⟨none,.store false 1 (.t 2) (.t 13),none,[]⟩]
def v74:VFn:=⟨3,[],(.seq (.region false 1 [1,2,3] qym) (.seq (.region false 0 [2,11] qyl) (.cond (.t 11) (.region false 0 [] qyk) .skip)))⟩
def qEm:List VOper:=[
 ⟨some 1,.box 0 (.t 0),none,[]⟩,
 ⟨some 2,.move (.c (.d (.bool false))),none,[]⟩]
def qEl:List VOper:=[
 ⟨some 3,.fieldAddr 0 (.t 1),none,[]⟩,
 ⟨some 4,.load false 1 (.t 3),none,[]⟩,
 ⟨some 5,.bin .eql (.t 4) (.c (.d (.int .i64 (-1)))),none,[]⟩,
 ⟨some 2,.move (.t 5),none,[]⟩]
def v75:VFn:=⟨1,[.tmp 2],(.seq (.region false 1 [1] qEm) (.seq (.region false 0 [2] qEl) .ret))⟩
def qgZ:List VOper:=[
 ⟨some 2,.move (.c (.d (.bool false))),none,[]⟩]
def qgY:List VOper:=[
 ⟨some 5,.move (.t 0),none,[]⟩,
 ⟨some 6,.len false (.t 5),none,[]⟩,
 ⟨some 7,.move (.c (.d (.int .i64 0))),none,[]⟩]
def qgX:List VOper:=[
 ⟨some 8,.bin .lss (.t 7) (.t 6),none,[]⟩]
def qgW:List VOper:=[
 ⟨some 9,.move (.t 7),none,[]⟩,
 ⟨some 10,.indexAddr 3 none (.t 5) (.t 7),none,[]⟩,
 ⟨some 11,.load true 3 (.t 10),none,[]⟩,
 ⟨some 4,.alloc 0 [.str ⟨#[]⟩,.int .i64 0,.bool false],none,[]⟩,
 ⟨some 3,.move (.t 9),none,[]⟩,
 ⟨none,.store false 3 (.t 4) (.t 11),none,[]⟩]
def qgV:List VOper:=[
 ⟨some 12,.fieldAddr 0 (.t 4),none,[]⟩,
 ⟨some 13,.load false 1 (.t 12),none,[]⟩,
 ⟨some 14,.call true (.c (.fn 60 [])) [.t 13],none,[]⟩,
 ⟨some 15,.not (.t 14),none,[]⟩,
 ⟨some 16,.move (.t 15),none,[]⟩,
 ⟨some 17,.move (.t 0),some (16,false),[]⟩,
 ⟨some 18,.fieldAddr 0 (.t 4),some (16,false),[]⟩,
 ⟨some 19,.load false 1 (.t 18),some (16,false),[]⟩,
 ⟨some 20,.call true (.c (.fn 14 [])) [.t 17,.t 19],some (16,false),[]⟩,
 ⟨some 21,.move (.t 3),some (16,false),[]⟩,
 ⟨some 22,.bin .neq (.t 20) (.t 21),some (16,false),[]⟩,
 ⟨some 23,.pick (.t 16) (.c (.d (.bool true))) (.t 22),none,[]⟩,
 ⟨some 24,.move (.t 23),none,[]⟩,
 ⟨some 25,.fieldAddr 1 (.t 4),some (24,false),[]⟩,
 ⟨some 26,.load false 1 (.t 25),some (24,false),[]⟩,
 ⟨some 27,.call true (.c (.fn 30 [])) [.t 26,.c (.d (.int .i64 0)),.c (.d (.int .i64 3))],some (24,false),[]⟩,
 ⟨some 28,.not (.t 27),some (24,false),[]⟩,
 ⟨some 29,.pick (.t 24) (.c (.d (.bool true))) (.t 28),none,[]⟩,
 ⟨some 30,.move (.t 29),none,[]⟩,
 ⟨some 31,.fieldAddr 2 (.t 4),some (30,false),[]⟩,
 ⟨some 32,.load false 1 (.t 31),some (30,false),[]⟩,
 ⟨some 33,.move (.t 32),some (30,false),[]⟩,
 ⟨some 34,.fieldAddr 1 (.t 4),some (33,true),[]⟩,
 ⟨some 35,.load false 1 (.t 34),some (33,true),[]⟩,
 ⟨some 36,.bin .neq (.t 35) (.c (.d (.int .i64 2))),some (33,true),[]⟩,
 ⟨some 37,.pick (.t 33) (.t 36) (.c (.d (.bool false))),some (30,false),[]⟩,
 ⟨some 38,.pick (.t 30) (.c (.d (.bool true))) (.t 37),none,[]⟩]
def qgU:List VOper:=[
 ⟨some 2,.move (.c (.d (.bool false))),none,[]⟩]
def qgT:List VOper:=[
 ⟨some 39,.bin .add (.t 7) (.c (.d (.int .i64 1))),none,[]⟩,
 ⟨some 7,.move (.t 39),none,[]⟩]
def qjZ:VCode:=(.seq (.region false 0 [0,5,6,7,8] qgX) (.seq (.cond (.t 8) .skip (.exit 0)) (.seq (.block 1 (.seq (.region false 1 [0,3,4,5,6,7] qgW) (.seq (.region false 0 [0,5,6,7,38] qgV) (.cond (.t 38) (.seq (.region false 0 [2] qgU) .ret) .skip)))) (.region false 0 [0,5,6,7] qgT))))
def qgS:List VOper:=[
 ⟨some 40,.move (.t 0),none,[]⟩,
 ⟨some 41,.len false (.t 40),none,[]⟩,
 ⟨some 42,.call true (.c (.fn 30 [])) [.t 41,.c (.d (.int .i64 1)),.c (.d (.int .i64 8))],none,[]⟩,
 ⟨some 43,.move (.t 42),none,[]⟩,
 ⟨some 44,.move (.t 0),some (43,true),[]⟩,
 ⟨some 45,.indexAddr 3 none (.t 44) (.c (.d (.int .i64 0))),some (43,true),[]⟩,
 ⟨some 46,.fieldAddr 0 (.t 45),some (43,true),[]⟩,
 ⟨some 47,.load false 1 (.t 46),some (43,true),[]⟩,
 ⟨some 48,.bin .eql (.t 47) (.c (.d (.str ⟨#[116,116]⟩))),some (43,true),[]⟩,
 ⟨some 49,.pick (.t 43) (.t 48) (.c (.d (.bool false))),none,[]⟩,
 ⟨some 50,.move (.t 49),none,[]⟩,
 ⟨some 51,.move (.t 0),some (50,true),[]⟩,
 ⟨some 52,.indexAddr 3 none (.t 51) (.c (.d (.int .i64 0))),some (50,true),[]⟩,
 ⟨some 53,.fieldAddr 1 (.t 52),some (50,true),[]⟩,
 ⟨some 54,.load false 1 (.t 53),some (50,true),[]⟩,
 ⟨some 55,.bin .eql (.t 54) (.c (.d (.int .i64 0))),some (50,true),[]⟩,
 ⟨some 56,.pick (.t 50) (.t 55) (.c (.d (.bool false))),none,[]⟩,
 ⟨some 2,.move (.t 56),none,[]⟩]
def v77:VFn:=⟨1,[.tmp 2],(.seq (.region false 0 [0] qgZ) (.seq (.seq (.region false 0 [0,5,6,7] qgY) (.block 0 (.loop [0,5,6,7] qjZ))) (.seq (.region false 0 [2] qgS) .ret)))⟩
def qq2:List VOper:=[
 ⟨some 3,.box 0 (.t 1),none,[]⟩,
 ⟨some 4,.move (.c (.d (.bool false))),none,[]⟩]
def qq1:List VOper:=[
 ⟨some 7,.load true 3 (.t 3),none,[]⟩,
 ⟨some 8,.call true (.c (.fn 75 [])) [.t 7],none,[]⟩]
def qq0:List VOper:=[
 ⟨some 9,.fieldAddr 1 (.t 3),none,[]⟩,
 ⟨some 10,.load false 1 (.t 9),none,[]⟩,
 ⟨some 11,.call true (.c (.fn 30 [])) [.t 10,.c (.d (.int .i64 0)),.c (.d (.int .i64 99))],none,[]⟩,
 ⟨some 12,.move (.t 11),none,[]⟩,
 ⟨some 13,.fieldAddr 2 (.t 3),some (12,true),[]⟩,
 ⟨some 14,.load false 1 (.t 13),some (12,true),[]⟩,
 ⟨some 15,.len false (.t 14),some (12,true),[]⟩,
 ⟨some 16,.bin .eql (.t 15) (.c (.d (.int .i64 0))),some (12,true),[]⟩,
 ⟨some 17,.pick (.t 12) (.t 16) (.c (.d (.bool false))),none,[]⟩,
 ⟨some 4,.move (.t 17),none,[]⟩]
def qyj:List VOper:=[
 ⟨some 18,.move (.t 0),none,[]⟩,
 ⟨some 19,.fieldAddr 0 (.t 3),none,[]⟩,
 ⟨some 20,.load false 1 (.t 19),none,[1]⟩,
 ⟨some 21,.call true (.c (.fn 29 [])) [.t 18,.t 20],none,[0,2]⟩,
 ⟨some 22,.not (.t 21),none,[3]⟩,
 ⟨some 23,.move (.t 22),none,[3,4]⟩,
 ⟨some 24,.fieldAddr 1 (.t 3),some (23,false),[5]⟩,
 ⟨some 25,.load false 1 (.t 24),some (23,false),[5,6]⟩,
 ⟨some 26,.bin .neq (.t 25) (.c (.d (.int .i64 0))),some (23,false),[5,7]⟩,
 ⟨some 27,.pick (.t 23) (.c (.d (.bool true))) (.t 26),none,[5,8]⟩,
 ⟨some 28,.move (.t 27),none,[5,9]⟩,
 ⟨some 29,.move (.t 0),some (28,false),[10]⟩,
 ⟨some 30,.fieldAddr 0 (.t 3),some (28,false),[10]⟩,
 ⟨some 31,.load false 1 (.t 30),some (28,false),[10,12]⟩,
 ⟨some 32,.indexAddr 3 none (.t 29) (.t 31),some (28,false),[10,11,13]⟩,
 ⟨some 33,.fieldAddr 2 (.t 32),some (28,false),[10,14]⟩,
 ⟨some 34,.load false 1 (.t 33),some (28,false),[10,15]⟩,
 ⟨some 35,.not (.t 34),some (28,false),[10,16]⟩,
 ⟨some 36,.move (.t 35),some (28,false),[10,17]⟩,
 ⟨some 37,.fieldAddr 2 (.t 3),some (36,true),[18]⟩,
 ⟨some 38,.load false 1 (.t 37),some (36,true),[18,19]⟩,
 ⟨some 39,.len false (.t 38),some (36,true),[18,20]⟩,
 ⟨some 40,.move (.t 0),some (36,true),[18]⟩,
 ⟨some 41,.fieldAddr 0 (.t 3),some (36,true),[18]⟩,
 ⟨some 42,.load false 1 (.t 41),some (36,true),[18,23]⟩,
 ⟨some 43,.indexAddr 3 none (.t 40) (.t 42),some (36,true),[18,22,24]⟩,
 ⟨some 44,.fieldAddr 1 (.t 43),some (36,true),[18,25]⟩,
 ⟨some 45,.load false 1 (.t 44),some (36,true),[18,26]⟩,
 ⟨some 46,.bin .neq (.t 39) (.t 45),some (36,true),[18,21,27]⟩,
 ⟨some 47,.pick (.t 36) (.t 46) (.c (.d (.bool false))),some (28,false),[10,18,28]⟩,
 ⟨some 48,.pick (.t 28) (.c (.d (.bool true))) (.t 47),none,[10,29]⟩,
 ⟨some 49,.move (.t 48),none,[18,30]⟩,
 ⟨some 50,.move (.t 0),some (49,false),[31]⟩,
 ⟨some 51,.fieldAddr 0 (.t 3),some (49,false),[31]⟩,
 ⟨some 52,.load false 1 (.t 51),some (49,false),[31,33]⟩,
 ⟨some 53,.indexAddr 3 none (.t 50) (.t 52),some (49,false),[31,32,34]⟩,
 ⟨some 54,.fieldAddr 2 (.t 53),some (49,false),[31,35]⟩,
 ⟨some 55,.load false 1 (.t 54),some (49,false),[31,36]⟩,
 ⟨some 56,.move (.t 55),some (49,false),[31,37]⟩,
 ⟨some 57,.fieldAddr 2 (.t 3),some (56,true),[38]⟩,
 ⟨some 58,.load false 1 (.t 57),some (56,true),[38,39]⟩,
 ⟨some 59,.len false (.t 58),some (56,true),[38,40]⟩,
 ⟨some 60,.bin .lss (.t 59) (.c (.d (.int .i64 2))),some (56,true),[38,41]⟩,
 ⟨some 61,.pick (.t 56) (.t 60) (.c (.d (.bool false))),some (49,false),[31,38,42]⟩,
 ⟨some 62,.pick (.t 49) (.c (.d (.bool true))) (.t 61),none,[31,43]⟩]
def qBD:List VOper:=[
 ⟨some 4,.move (.c (.d (.bool false))),none,[]⟩]
def qEk:List VOper:=[
 ⟨some 63,.fieldAddr 2 (.t 3),none,[]⟩,
 ⟨some 64,.load false 1 (.t 63),none,[]⟩,
 ⟨some 65,.len false (.t 64),none,[]⟩,
 ⟨some 66,.move (.c (.d (.int .i64 0))),none,[]⟩]
def qyi:List VOper:=[
 ⟨some 67,.bin .lss (.t 66) (.t 65),none,[]⟩]
def qBC:List VOper:=[
 ⟨some 68,.move (.t 66),none,[]⟩,
 ⟨some 69,.indexAddr 3 none (.t 64) (.t 66),none,[]⟩,
 ⟨some 70,.load true 3 (.t 69),none,[]⟩,
 ⟨some 6,.alloc 0 [.int .i64 0,.int .i64 0,.sl .nil []],none,[]⟩,
 ⟨some 5,.move (.t 68),none,[]⟩,
 ⟨none,.store false 3 (.t 6) (.t 70),none,[]⟩]
def qyh:List VOper:=[
 ⟨some 71,.move (.t 0),none,[]⟩,
 ⟨some 72,.load true 3 (.t 6),none,[]⟩,
 ⟨some 73,.call true (.c (.fn 78 [])) [.t 71,.t 72],none,[0,1]⟩,
 ⟨some 74,.not (.t 73),none,[2]⟩,
 ⟨some 75,.move (.t 74),none,[2,3]⟩,
 ⟨some 76,.move (.t 0),some (75,false),[4]⟩,
 ⟨some 77,.fieldAddr 0 (.t 3),some (75,false),[4]⟩,
 ⟨some 78,.load false 1 (.t 77),some (75,false),[4,6]⟩,
 ⟨some 79,.indexAddr 3 none (.t 76) (.t 78),some (75,false),[4,5,7]⟩,
 ⟨some 80,.fieldAddr 2 (.t 79),some (75,false),[4,8]⟩,
 ⟨some 81,.load false 1 (.t 80),some (75,false),[4,9]⟩,
 ⟨some 82,.move (.t 81),some (75,false),[4,10]⟩,
 ⟨some 83,.fieldAddr 0 (.t 6),some (82,true),[11]⟩,
 ⟨some 84,.load false 1 (.t 83),some (82,true),[11,12]⟩,
 ⟨some 85,.fieldAddr 0 (.t 3),some (82,true),[11]⟩,
 ⟨some 86,.load false 1 (.t 85),some (82,true),[11,14]⟩,
 ⟨some 87,.bin .eql (.t 84) (.t 86),some (82,true),[11,13,15]⟩,
 ⟨some 88,.move (.t 87),some (82,true),[11,16]⟩,
 ⟨some 89,.move (.t 5),some (88,false),[17]⟩,
 ⟨some 90,.bin .gtr (.t 89) (.c (.d (.int .i64 0))),some (88,false),[17,18]⟩,
 ⟨some 91,.move (.t 90),some (88,false),[17,19]⟩,
 ⟨some 92,.load true 3 (.t 6),some (91,true),[20]⟩,
 ⟨some 93,.fieldAddr 2 (.t 3),some (91,true),[20]⟩,
 ⟨some 94,.load false 1 (.t 93),some (91,true),[20,22]⟩,
 ⟨some 95,.move (.t 5),some (91,true),[20]⟩,
 ⟨some 96,.bin .sub (.t 95) (.c (.d (.int .i64 1))),some (91,true),[20,24]⟩,
 ⟨some 97,.indexAddr 3 none (.t 94) (.t 96),some (91,true),[20,23,25]⟩,
 ⟨some 98,.load true 3 (.t 97),some (91,true),[20,26]⟩,
 ⟨some 99,.call true (.c (.fn 79 [])) [.t 92,.t 98],some (91,true),[20,21,27]⟩,
 ⟨some 100,.pick (.t 91) (.t 99) (.c (.d (.bool false))),some (88,false),[17,20,28]⟩,
 ⟨some 101,.pick (.t 88) (.c (.d (.bool true))) (.t 100),some (82,true),[11,17,29]⟩,
 ⟨some 102,.pick (.t 82) (.t 101) (.c (.d (.bool false))),some (75,false),[4,11,30]⟩,
 ⟨some 103,.pick (.t 75) (.c (.d (.bool true))) (.t 102),none,[4,31]⟩]
def qBB:List VOper:=[
 ⟨some 4,.move (.c (.d (.bool false))),none,[]⟩]
def qt4:List VOper:=[
 ⟨some 104,.bin .add (.t 66) (.c (.d (.int .i64 1))),none,[]⟩,
 ⟨some 66,.move (.t 104),none,[]⟩]
def qwA:VCode:=(.seq (.region false 0 [0,3,64,65,66,67] qyi) (.seq (.cond (.t 67) .skip (.exit 0)) (.seq (.block 1 (.seq (.region false 1 [0,3,5,6,64,65,66] qBC) (.seq (.region true 0 [0,3,64,65,66,103] qyh) (.cond (.t 103) (.seq (.region false 0 [4] qBB) .ret) .skip)))) (.region false 0 [0,3,64,65,66] qt4))))
def qzq:List VOper:=[
 ⟨some 4,.move (.c (.d (.bool true))),none,[]⟩]
def v78:VFn:=⟨2,[.tmp 4],(.seq (.region false 1 [0,3] qq2) (.seq (.seq (.region false 0 [0,3,8] qq1) (.cond (.t 8) (.seq (.region false 0 [4] qq0) .ret) .skip)) (.seq (.seq (.region true 0 [0,3,62] qyj) (.cond (.t 62) (.seq (.region false 0 [4] qBD) .ret) .skip)) (.seq (.seq (.region false 0 [0,3,64,65,66] qEk) (.block 0 (.loop [0,3,64,65,66] qwA))) (.seq (.region false 0 [4] qzq) .ret)))))⟩
def qEj:List VOper:=[
 ⟨some 2,.box 0 (.t 0),none,[]⟩,
 ⟨some 3,.box 1 (.t 1),none,[]⟩,
 ⟨some 4,.move (.c (.d (.bool false))),none,[]⟩]
def qEi:List VOper:=[
 ⟨some 5,.load true 3 (.t 2),none,[]⟩,
 ⟨some 6,.load true 3 (.t 3),none,[]⟩,
 ⟨some 7,.call true (.c (.fn 6 [])) [.t 5,.t 6],none,[]⟩,
 ⟨some 8,.bin .lss (.t 7) (.c (.d (.int .i64 0))),none,[]⟩,
 ⟨some 4,.move (.t 8),none,[]⟩]
def v79:VFn:=⟨2,[.tmp 4],(.seq (.region false 2 [2,3] qEj) (.seq (.region false 0 [4] qEi) .ret))⟩
def qyg:List VOper:=[
 ⟨some 3,.box 0 (.t 1),none,[]⟩,
 ⟨some 4,.move (.c (.d (.bool false))),none,[]⟩]
def qyf:List VOper:=[
 ⟨some 5,.move (.t 0),none,[]⟩,
 ⟨some 6,.call true (.c (.fn 82 [])) [.t 5],none,[]⟩,
 ⟨some 7,.move (.t 6),none,[]⟩,
 ⟨some 8,.load true 3 (.t 3),some (7,true),[]⟩,
 ⟨some 9,.call true (.c (.fn 22 [])) [.t 8],some (7,true),[]⟩,
 ⟨some 10,.bin .leq (.t 9) (.c (.d (.int .i64 60))),some (7,true),[]⟩,
 ⟨some 11,.pick (.t 7) (.t 10) (.c (.d (.bool false))),none,[]⟩,
 ⟨some 12,.move (.t 11),none,[]⟩,
 ⟨some 13,.move (.t 0),some (12,true),[]⟩,
 ⟨some 14,.load true 3 (.t 3),some (12,true),[]⟩,
 ⟨some 15,.call true (.c (.fn 83 [])) [.t 13,.t 14],some (12,true),[]⟩,
 ⟨some 16,.pick (.t 12) (.t 15) (.c (.d (.bool false))),none,[]⟩,
 ⟨some 4,.move (.t 16),none,[]⟩]
def v80:VFn:=⟨2,[.tmp 4],(.seq (.region false 1 [0,3] qyg) (.seq (.region false 0 [4] qyf) .ret))⟩
def qlk:List VOper:=[
 ⟨some 2,.box 0 (.t 0),none,[]⟩,
 ⟨some 4,.move (.c (.d (.int .i64 0))),none,[]⟩]
def qlj:List VOper:=[
 ⟨some 7,.fieldAddr 0 (.t 2),none,[]⟩,
 ⟨some 8,.load false 1 (.t 7),none,[]⟩,
 ⟨some 9,.bin .eql (.t 8) (.c (.d (.int .i64 (-1)))),none,[]⟩,
 ⟨some 10,.move (.t 9),none,[]⟩,
 ⟨some 11,.fieldAddr 1 (.t 2),some (10,true),[]⟩,
 ⟨some 12,.load false 1 (.t 11),some (10,true),[]⟩,
 ⟨some 13,.move (.t 1),some (10,true),[]⟩,
 ⟨some 14,.bin .eql (.t 12) (.t 13),some (10,true),[]⟩,
 ⟨some 15,.pick (.t 10) (.t 14) (.c (.d (.bool false))),none,[]⟩,
 ⟨some 16,.call true (.c (.fn 85 [])) [.t 15],none,[]⟩,
 ⟨some 5,.move (.t 16),none,[]⟩]
def qli:List VOper:=[
 ⟨some 6,.move (.c (.d (.int .i64 0))),none,[]⟩]
def qlh:List VOper:=[
 ⟨some 17,.move (.t 6),none,[]⟩,
 ⟨some 18,.fieldAddr 2 (.t 2),none,[]⟩,
 ⟨some 19,.load false 1 (.t 18),none,[]⟩,
 ⟨some 20,.len false (.t 19),none,[]⟩,
 ⟨some 21,.bin .lss (.t 17) (.t 20),none,[]⟩]
def qlf:List VOper:=[
 ⟨some 24,.move (.t 5),none,[]⟩,
 ⟨some 25,.fieldAddr 2 (.t 2),none,[]⟩,
 ⟨some 26,.load false 1 (.t 25),none,[]⟩,
 ⟨some 27,.move (.t 6),none,[]⟩,
 ⟨some 28,.indexAddr 3 none (.t 26) (.t 27),none,[]⟩,
 ⟨some 29,.load true 3 (.t 28),none,[]⟩,
 ⟨some 30,.move (.t 1),none,[]⟩,
 ⟨some 31,.call true (.c (.fn 81 [])) [.t 29,.t 30],none,[]⟩,
 ⟨some 32,.bin .add (.t 24) (.t 31),none,[]⟩,
 ⟨some 5,.move (.t 32),none,[]⟩]
def qlg:List VOper:=[
 ⟨some 22,.move (.t 6),none,[]⟩,
 ⟨some 23,.bin .add (.t 22) (.c (.d (.int .i64 1))),none,[]⟩,
 ⟨some 6,.move (.t 23),none,[]⟩]
def qy8:VCode:=(.seq (.seq (.region false 0 [1,2,5,6,21] qlh) (.cond (.t 21) .skip (.exit 0))) (.seq (.block 1 (.region false 0 [1,2,5,6] qlf)) (.region false 0 [1,2,5,6] qlg)))
def qle:List VOper:=[
 ⟨some 33,.move (.t 5),none,[]⟩,
 ⟨some 4,.move (.t 33),none,[]⟩]
def v81:VFn:=⟨2,[.tmp 4],(.seq (.region false 1 [1,2] qlk) (.seq (.region false 0 [1,2,5] qlj) (.seq (.seq (.region false 0 [1,2,5,6] qli) (.block 0 (.loop [1,2,5,6] qy8))) (.seq (.region false 0 [4] qle) .ret))))⟩
def qiM:List VOper:=[
 ⟨some 2,.move (.c (.d (.bool false))),none,[]⟩]
def qiL:List VOper:=[
 ⟨some 3,.move (.c (.d (.int .i64 0))),none,[]⟩]
def qiK:List VOper:=[
 ⟨some 4,.move (.t 3),none,[]⟩,
 ⟨some 5,.move (.t 0),none,[]⟩,
 ⟨some 6,.len false (.t 5),none,[]⟩,
 ⟨some 7,.bin .lss (.t 4) (.t 6),none,[]⟩]
def qiI:List VOper:=[
 ⟨some 10,.move (.t 0),none,[]⟩,
 ⟨some 11,.move (.t 3),none,[]⟩,
 ⟨some 12,.indexAddr 3 none (.t 10) (.t 11),none,[]⟩,
 ⟨some 13,.fieldAddr 0 (.t 12),none,[]⟩,
 ⟨some 14,.load false 1 (.t 13),none,[]⟩,
 ⟨some 15,.call true (.c (.fn 59 [])) [.t 14],none,[]⟩,
 ⟨some 16,.not (.t 15),none,[]⟩,
 ⟨some 17,.move (.t 16),none,[]⟩,
 ⟨some 18,.move (.t 0),some (17,false),[]⟩,
 ⟨some 19,.move (.t 0),some (17,false),[]⟩,
 ⟨some 20,.move (.t 3),some (17,false),[]⟩,
 ⟨some 21,.indexAddr 3 none (.t 19) (.t 20),some (17,false),[]⟩,
 ⟨some 22,.fieldAddr 0 (.t 21),some (17,false),[]⟩,
 ⟨some 23,.load false 1 (.t 22),some (17,false),[]⟩,
 ⟨some 24,.call true (.c (.fn 13 [])) [.t 18,.t 23],some (17,false),[]⟩,
 ⟨some 25,.move (.t 3),some (17,false),[]⟩,
 ⟨some 26,.bin .neq (.t 24) (.t 25),some (17,false),[]⟩,
 ⟨some 27,.pick (.t 17) (.c (.d (.bool true))) (.t 26),none,[]⟩,
 ⟨some 28,.move (.t 27),none,[]⟩,
 ⟨some 29,.move (.t 0),some (28,false),[]⟩,
 ⟨some 30,.move (.t 3),some (28,false),[]⟩,
 ⟨some 31,.indexAddr 3 none (.t 29) (.t 30),some (28,false),[]⟩,
 ⟨some 32,.fieldAddr 1 (.t 31),some (28,false),[]⟩,
 ⟨some 33,.load false 1 (.t 32),some (28,false),[]⟩,
 ⟨some 34,.call true (.c (.fn 31 [])) [.t 33,.c (.d (.int .i64 0)),.c (.d (.int .i64 3))],some (28,false),[]⟩,
 ⟨some 35,.not (.t 34),some (28,false),[]⟩,
 ⟨some 36,.pick (.t 28) (.c (.d (.bool true))) (.t 35),none,[]⟩,
 ⟨some 37,.move (.t 36),none,[]⟩,
 ⟨some 38,.move (.t 0),some (37,false),[]⟩,
 ⟨some 39,.move (.t 3),some (37,false),[]⟩,
 ⟨some 40,.indexAddr 3 none (.t 38) (.t 39),some (37,false),[]⟩,
 ⟨some 41,.fieldAddr 2 (.t 40),some (37,false),[]⟩,
 ⟨some 42,.load false 1 (.t 41),some (37,false),[]⟩,
 ⟨some 43,.move (.t 42),some (37,false),[]⟩,
 ⟨some 44,.move (.t 0),some (43,true),[]⟩,
 ⟨some 45,.move (.t 3),some (43,true),[]⟩,
 ⟨some 46,.indexAddr 3 none (.t 44) (.t 45),some (43,true),[]⟩,
 ⟨some 47,.fieldAddr 1 (.t 46),some (43,true),[]⟩,
 ⟨some 48,.load false 1 (.t 47),some (43,true),[]⟩,
 ⟨some 49,.bin .neq (.t 48) (.c (.d (.int .i64 2))),some (43,true),[]⟩,
 ⟨some 50,.pick (.t 43) (.t 49) (.c (.d (.bool false))),some (37,false),[]⟩,
 ⟨some 51,.pick (.t 37) (.c (.d (.bool true))) (.t 50),none,[]⟩]
def qiH:List VOper:=[
 ⟨some 2,.move (.c (.d (.bool false))),none,[]⟩]
def qiJ:List VOper:=[
 ⟨some 8,.move (.t 3),none,[]⟩,
 ⟨some 9,.bin .add (.t 8) (.c (.d (.int .i64 1))),none,[]⟩,
 ⟨some 3,.move (.t 9),none,[]⟩]
def qlV:VCode:=(.seq (.seq (.region false 0 [0,3,7] qiK) (.cond (.t 7) .skip (.exit 0))) (.seq (.block 1 (.seq (.region false 0 [0,3,51] qiI) (.cond (.t 51) (.seq (.region false 0 [2] qiH) .ret) .skip))) (.region false 0 [0,3] qiJ)))
def qiG:List VOper:=[
 ⟨some 52,.move (.t 0),none,[]⟩,
 ⟨some 53,.len false (.t 52),none,[]⟩,
 ⟨some 54,.call true (.c (.fn 31 [])) [.t 53,.c (.d (.int .i64 1)),.c (.d (.int .i64 8))],none,[]⟩,
 ⟨some 55,.move (.t 54),none,[]⟩,
 ⟨some 56,.move (.t 0),some (55,true),[]⟩,
 ⟨some 57,.indexAddr 3 none (.t 56) (.c (.d (.int .i64 0))),some (55,true),[]⟩,
 ⟨some 58,.load true 3 (.t 57),some (55,true),[]⟩,
 ⟨some 59,.build [.str ⟨#[]⟩,.int .i64 0,.bool false] [(0,1,.c (.d (.str ⟨#[116,116]⟩)))],some (55,true),[]⟩,
 ⟨some 60,.eqAgg false [2,0,1] (.t 58) (.t 59),some (55,true),[]⟩,
 ⟨some 61,.pick (.t 55) (.t 60) (.c (.d (.bool false))),none,[]⟩,
 ⟨some 2,.move (.t 61),none,[]⟩]
def v82:VFn:=⟨1,[.tmp 2],(.seq (.region false 0 [0] qiM) (.seq (.seq (.region false 0 [0,3] qiL) (.block 0 (.loop [0,3] qlV))) (.seq (.region false 0 [2] qiG) .ret)))⟩
def qqZ:List VOper:=[
 ⟨some 3,.box 0 (.t 1),none,[]⟩,
 ⟨some 4,.move (.c (.d (.bool false))),none,[]⟩]
def qqY:List VOper:=[
 ⟨some 6,.fieldAddr 0 (.t 3),none,[]⟩,
 ⟨some 7,.load false 1 (.t 6),none,[]⟩,
 ⟨some 8,.bin .eql (.t 7) (.c (.d (.int .i64 (-1)))),none,[]⟩]
def qqX:List VOper:=[
 ⟨some 9,.fieldAddr 1 (.t 3),none,[]⟩,
 ⟨some 10,.load false 1 (.t 9),none,[]⟩,
 ⟨some 11,.call true (.c (.fn 31 [])) [.t 10,.c (.d (.int .i64 0)),.c (.d (.int .i64 99))],none,[]⟩,
 ⟨some 12,.move (.t 11),none,[]⟩,
 ⟨some 13,.fieldAddr 2 (.t 3),some (12,true),[]⟩,
 ⟨some 14,.load false 1 (.t 13),some (12,true),[]⟩,
 ⟨some 15,.len false (.t 14),some (12,true),[]⟩,
 ⟨some 16,.bin .eql (.t 15) (.c (.d (.int .i64 0))),some (12,true),[]⟩,
 ⟨some 17,.pick (.t 12) (.t 16) (.c (.d (.bool false))),none,[]⟩,
 ⟨some 4,.move (.t 17),none,[]⟩]
def qye:List VOper:=[
 ⟨some 18,.fieldAddr 0 (.t 3),none,[]⟩,
 ⟨some 19,.load false 1 (.t 18),none,[0]⟩,
 ⟨some 20,.move (.t 0),none,[]⟩,
 ⟨some 21,.len false (.t 20),none,[2]⟩,
 ⟨some 22,.bin .sub (.t 21) (.c (.d (.int .i64 1))),none,[3]⟩,
 ⟨some 23,.call true (.c (.fn 31 [])) [.t 19,.c (.d (.int .i64 0)),.t 22],none,[1,4]⟩,
 ⟨some 24,.not (.t 23),none,[5]⟩,
 ⟨some 25,.move (.t 24),none,[5,6]⟩,
 ⟨some 26,.fieldAddr 1 (.t 3),some (25,false),[7]⟩,
 ⟨some 27,.load false 1 (.t 26),some (25,false),[7,8]⟩,
 ⟨some 28,.bin .neq (.t 27) (.c (.d (.int .i64 0))),some (25,false),[7,9]⟩,
 ⟨some 29,.pick (.t 25) (.c (.d (.bool true))) (.t 28),none,[7,10]⟩,
 ⟨some 30,.move (.t 29),none,[7,11]⟩,
 ⟨some 31,.move (.t 0),some (30,false),[12]⟩,
 ⟨some 32,.fieldAddr 0 (.t 3),some (30,false),[12]⟩,
 ⟨some 33,.load false 1 (.t 32),some (30,false),[12,14]⟩,
 ⟨some 34,.indexAddr 3 none (.t 31) (.t 33),some (30,false),[12,13,15]⟩,
 ⟨some 35,.fieldAddr 2 (.t 34),some (30,false),[12,16]⟩,
 ⟨some 36,.load false 1 (.t 35),some (30,false),[12,17]⟩,
 ⟨some 37,.not (.t 36),some (30,false),[12,18]⟩,
 ⟨some 38,.move (.t 37),some (30,false),[12,19]⟩,
 ⟨some 39,.fieldAddr 2 (.t 3),some (38,true),[20]⟩,
 ⟨some 40,.load false 1 (.t 39),some (38,true),[20,21]⟩,
 ⟨some 41,.len false (.t 40),some (38,true),[20,22]⟩,
 ⟨some 42,.move (.t 0),some (38,true),[20]⟩,
 ⟨some 43,.fieldAddr 0 (.t 3),some (38,true),[20]⟩,
 ⟨some 44,.load false 1 (.t 43),some (38,true),[20,25]⟩,
 ⟨some 45,.indexAddr 3 none (.t 42) (.t 44),some (38,true),[20,24,26]⟩,
 ⟨some 46,.fieldAddr 1 (.t 45),some (38,true),[20,27]⟩,
 ⟨some 47,.load false 1 (.t 46),some (38,true),[20,28]⟩,
 ⟨some 48,.bin .neq (.t 41) (.t 47),some (38,true),[20,23,29]⟩,
 ⟨some 49,.pick (.t 38) (.t 48) (.c (.d (.bool false))),some (30,false),[12,20,30]⟩,
 ⟨some 50,.pick (.t 30) (.c (.d (.bool true))) (.t 49),none,[12,31]⟩,
 ⟨some 51,.move (.t 50),none,[20,32]⟩,
 ⟨some 52,.move (.t 0),some (51,false),[33]⟩,
 ⟨some 53,.fieldAddr 0 (.t 3),some (51,false),[33]⟩,
 ⟨some 54,.load false 1 (.t 53),some (51,false),[33,35]⟩,
 ⟨some 55,.indexAddr 3 none (.t 52) (.t 54),some (51,false),[33,34,36]⟩,
 ⟨some 56,.fieldAddr 2 (.t 55),some (51,false),[33,37]⟩,
 ⟨some 57,.load false 1 (.t 56),some (51,false),[33,38]⟩,
 ⟨some 58,.move (.t 57),some (51,false),[33,39]⟩,
 ⟨some 59,.fieldAddr 2 (.t 3),some (58,true),[40]⟩,
 ⟨some 60,.load false 1 (.t 59),some (58,true),[40,41]⟩,
 ⟨some 61,.len false (.t 60),some (58,true),[40,42]⟩,
 ⟨some 62,.bin .lss (.t 61) (.c (.d (.int .i64 2))),some (58,true),[40,43]⟩,
 ⟨some 63,.pick (.t 58) (.t 62) (.c (.d (.bool false))),some (51,false),[33,40,44]⟩,
 ⟨some 64,.pick (.t 51) (.c (.d (.bool true))) (.t 63),none,[33,45]⟩]
def qBA:List VOper:=[
 ⟨some 4,.move (.c (.d (.bool false))),none,[]⟩]
def qEh:List VOper:=[
 ⟨some 5,.move (.c (.d (.int .i64 0))),none,[]⟩]
def qyd:List VOper:=[
 ⟨some 65,.move (.t 5),none,[]⟩,
 ⟨some 66,.fieldAddr 2 (.t 3),none,[]⟩,
 ⟨some 67,.load false 1 (.t 66),none,[]⟩,
 ⟨some 68,.len false (.t 67),none,[]⟩,
 ⟨some 69,.bin .lss (.t 65) (.t 68),none,[]⟩]
def qyc:List VOper:=[
 ⟨some 72,.move (.t 0),none,[]⟩,
 ⟨some 73,.fieldAddr 0 (.t 3),none,[]⟩,
 ⟨some 74,.load false 1 (.t 73),none,[1]⟩,
 ⟨some 75,.indexAddr 3 none (.t 72) (.t 74),none,[0,2]⟩,
 ⟨some 76,.fieldAddr 2 (.t 75),none,[3]⟩,
 ⟨some 77,.load false 1 (.t 76),none,[4]⟩,
 ⟨some 78,.move (.t 77),none,[5]⟩,
 ⟨some 79,.fieldAddr 2 (.t 3),some (78,true),[6]⟩,
 ⟨some 80,.load false 1 (.t 79),some (78,true),[6,7]⟩,
 ⟨some 81,.move (.t 5),some (78,true),[6]⟩,
 ⟨some 82,.indexAddr 3 none (.t 80) (.t 81),some (78,true),[6,8,9]⟩,
 ⟨some 83,.fieldAddr 0 (.t 82),some (78,true),[6,10]⟩,
 ⟨some 84,.load false 1 (.t 83),some (78,true),[6,11]⟩,
 ⟨some 85,.fieldAddr 0 (.t 3),some (78,true),[6]⟩,
 ⟨some 86,.load false 1 (.t 85),some (78,true),[6,13]⟩,
 ⟨some 87,.bin .eql (.t 84) (.t 86),some (78,true),[6,12,14]⟩,
 ⟨some 88,.move (.t 87),some (78,true),[6,15]⟩,
 ⟨some 89,.move (.t 5),some (88,false),[16]⟩,
 ⟨some 90,.bin .gtr (.t 89) (.c (.d (.int .i64 0))),some (88,false),[16,17]⟩,
 ⟨some 91,.move (.t 90),some (88,false),[16,18]⟩,
 ⟨some 92,.fieldAddr 2 (.t 3),some (91,true),[19]⟩,
 ⟨some 93,.load false 1 (.t 92),some (91,true),[19,20]⟩,
 ⟨some 94,.move (.t 5),some (91,true),[19]⟩,
 ⟨some 95,.indexAddr 3 none (.t 93) (.t 94),some (91,true),[19,21,22]⟩,
 ⟨some 96,.load true 3 (.t 95),some (91,true),[19,23]⟩,
 ⟨some 97,.fieldAddr 2 (.t 3),some (91,true),[19]⟩,
 ⟨some 98,.load false 1 (.t 97),some (91,true),[19,25]⟩,
 ⟨some 99,.move (.t 5),some (91,true),[19]⟩,
 ⟨some 100,.bin .sub (.t 99) (.c (.d (.int .i64 1))),some (91,true),[19,27]⟩,
 ⟨some 101,.indexAddr 3 none (.t 98) (.t 100),some (91,true),[19,26,28]⟩,
 ⟨some 102,.load true 3 (.t 101),some (91,true),[19,29]⟩,
 ⟨some 103,.call true (.c (.fn 84 [])) [.t 96,.t 102],some (91,true),[19,24,30]⟩,
 ⟨some 104,.pick (.t 91) (.t 103) (.c (.d (.bool false))),some (88,false),[16,19,31]⟩,
 ⟨some 105,.pick (.t 88) (.c (.d (.bool true))) (.t 104),some (78,true),[6,16,32]⟩,
 ⟨some 106,.pick (.t 78) (.t 105) (.c (.d (.bool false))),none,[6,33]⟩,
 ⟨some 107,.move (.t 106),none,[31,34]⟩,
 ⟨some 108,.move (.t 0),some (107,false),[35]⟩,
 ⟨some 109,.fieldAddr 2 (.t 3),some (107,false),[35]⟩,
 ⟨some 110,.load false 1 (.t 109),some (107,false),[35,37]⟩,
 ⟨some 111,.move (.t 5),some (107,false),[35]⟩,
 ⟨some 112,.indexAddr 3 none (.t 110) (.t 111),some (107,false),[35,38,39]⟩,
 ⟨some 113,.load true 3 (.t 112),some (107,false),[35,40]⟩,
 ⟨some 114,.call true (.c (.fn 83 [])) [.t 108,.t 113],some (107,false),[35,36,41]⟩,
 ⟨some 115,.not (.t 114),some (107,false),[35,42]⟩,
 ⟨some 116,.pick (.t 107) (.c (.d (.bool true))) (.t 115),none,[35,43]⟩]
def qBy:List VOper:=[
 ⟨some 4,.move (.c (.d (.bool false))),none,[]⟩]
def qBz:List VOper:=[
 ⟨some 70,.move (.t 5),none,[]⟩,
 ⟨some 71,.bin .add (.t 70) (.c (.d (.int .i64 1))),none,[]⟩,
 ⟨some 5,.move (.t 71),none,[]⟩]
def qwz:VCode:=(.seq (.seq (.region false 0 [0,3,5,69] qyd) (.cond (.t 69) .skip (.exit 0))) (.seq (.block 1 (.seq (.region true 0 [0,3,5,116] qyc) (.cond (.t 116) (.seq (.region false 0 [4] qBy) .ret) .skip))) (.region false 0 [0,3,5] qBz)))
def qzp:List VOper:=[
 ⟨some 4,.move (.c (.d (.bool true))),none,[]⟩]
def v83:VFn:=⟨2,[.tmp 4],(.seq (.region false 1 [0,3] qqZ) (.seq (.seq (.region false 0 [0,3,8] qqY) (.cond (.t 8) (.seq (.region false 0 [4] qqX) .ret) .skip)) (.seq (.seq (.region true 0 [0,3,64] qye) (.cond (.t 64) (.seq (.region false 0 [4] qBA) .ret) .skip)) (.seq (.seq (.region false 0 [0,3,5] qEh) (.block 0 (.loop [0,3,5] qwz))) (.seq (.region false 0 [4] qzp) .ret)))))⟩
def qld:List VOper:=[
 ⟨some 2,.box 0 (.t 0),none,[]⟩,
 ⟨some 3,.box 1 (.t 1),none,[]⟩,
 ⟨some 4,.move (.c (.d (.bool false))),none,[]⟩]
def qlc:List VOper:=[
 ⟨some 6,.fieldAddr 0 (.t 2),none,[]⟩,
 ⟨some 7,.load false 1 (.t 6),none,[]⟩,
 ⟨some 8,.fieldAddr 0 (.t 3),none,[]⟩,
 ⟨some 9,.load false 1 (.t 8),none,[]⟩,
 ⟨some 10,.bin .neq (.t 7) (.t 9),none,[]⟩]
def qlb:List VOper:=[
 ⟨some 11,.fieldAddr 0 (.t 2),none,[]⟩,
 ⟨some 12,.load false 1 (.t 11),none,[]⟩,
 ⟨some 13,.fieldAddr 0 (.t 3),none,[]⟩,
 ⟨some 14,.load false 1 (.t 13),none,[]⟩,
 ⟨some 15,.bin .lss (.t 12) (.t 14),none,[]⟩,
 ⟨some 4,.move (.t 15),none,[]⟩]
def qla:List VOper:=[
 ⟨some 16,.fieldAddr 1 (.t 2),none,[]⟩,
 ⟨some 17,.load false 1 (.t 16),none,[]⟩,
 ⟨some 18,.fieldAddr 1 (.t 3),none,[]⟩,
 ⟨some 19,.load false 1 (.t 18),none,[]⟩,
 ⟨some 20,.bin .neq (.t 17) (.t 19),none,[]⟩]
def qk9:List VOper:=[
 ⟨some 21,.fieldAddr 1 (.t 2),none,[]⟩,
 ⟨some 22,.load false 1 (.t 21),none,[]⟩,
 ⟨some 23,.fieldAddr 1 (.t 3),none,[]⟩,
 ⟨some 24,.load false 1 (.t 23),none,[]⟩,
 ⟨some 25,.bin .lss (.t 22) (.t 24),none,[]⟩,
 ⟨some 4,.move (.t 25),none,[]⟩]
def qk8:List VOper:=[
 ⟨some 26,.fieldAddr 2 (.t 2),none,[]⟩,
 ⟨some 27,.load false 1 (.t 26),none,[]⟩,
 ⟨some 28,.len false (.t 27),none,[]⟩,
 ⟨some 29,.fieldAddr 2 (.t 3),none,[]⟩,
 ⟨some 30,.load false 1 (.t 29),none,[]⟩,
 ⟨some 31,.len false (.t 30),none,[]⟩,
 ⟨some 32,.bin .neq (.t 28) (.t 31),none,[]⟩]
def qk7:List VOper:=[
 ⟨some 33,.fieldAddr 2 (.t 2),none,[]⟩,
 ⟨some 34,.load false 1 (.t 33),none,[]⟩,
 ⟨some 35,.len false (.t 34),none,[]⟩,
 ⟨some 36,.fieldAddr 2 (.t 3),none,[]⟩,
 ⟨some 37,.load false 1 (.t 36),none,[]⟩,
 ⟨some 38,.len false (.t 37),none,[]⟩,
 ⟨some 39,.bin .lss (.t 35) (.t 38),none,[]⟩,
 ⟨some 4,.move (.t 39),none,[]⟩]
def qk6:List VOper:=[
 ⟨some 5,.move (.c (.d (.int .i64 0))),none,[]⟩]
def qk5:List VOper:=[
 ⟨some 40,.move (.t 5),none,[]⟩,
 ⟨some 41,.fieldAddr 2 (.t 2),none,[]⟩,
 ⟨some 42,.load false 1 (.t 41),none,[]⟩,
 ⟨some 43,.len false (.t 42),none,[]⟩,
 ⟨some 44,.bin .lss (.t 40) (.t 43),none,[]⟩]
def qt3:List VOper:=[
 ⟨some 47,.fieldAddr 2 (.t 2),none,[]⟩,
 ⟨some 48,.load false 1 (.t 47),none,[0]⟩,
 ⟨some 49,.move (.t 5),none,[]⟩,
 ⟨some 50,.indexAddr 3 none (.t 48) (.t 49),none,[1,2]⟩,
 ⟨some 51,.load true 3 (.t 50),none,[3]⟩,
 ⟨some 52,.fieldAddr 2 (.t 3),none,[]⟩,
 ⟨some 53,.load false 1 (.t 52),none,[5]⟩,
 ⟨some 54,.move (.t 5),none,[]⟩,
 ⟨some 55,.indexAddr 3 none (.t 53) (.t 54),none,[6,7]⟩,
 ⟨some 56,.load true 3 (.t 55),none,[8]⟩,
 ⟨some 57,.call true (.c (.fn 3 [])) [.t 51,.t 56],none,[4,9]⟩,
 ⟨some 58,.not (.t 57),none,[10]⟩]
def qt2:List VOper:=[
 ⟨some 59,.fieldAddr 2 (.t 2),none,[]⟩,
 ⟨some 60,.load false 1 (.t 59),none,[0]⟩,
 ⟨some 61,.move (.t 5),none,[]⟩,
 ⟨some 62,.indexAddr 3 none (.t 60) (.t 61),none,[1,2]⟩,
 ⟨some 63,.load true 3 (.t 62),none,[3]⟩,
 ⟨some 64,.fieldAddr 2 (.t 3),none,[]⟩,
 ⟨some 65,.load false 1 (.t 64),none,[5]⟩,
 ⟨some 66,.move (.t 5),none,[]⟩,
 ⟨some 67,.indexAddr 3 none (.t 65) (.t 66),none,[6,7]⟩,
 ⟨some 68,.load true 3 (.t 67),none,[8]⟩,
 ⟨some 69,.call true (.c (.fn 84 [])) [.t 63,.t 68],none,[4,9]⟩,
 ⟨some 4,.move (.t 69),none,[0,1,2,3,4,5,6,7,8,9,10]⟩]
def qk4:List VOper:=[
 ⟨some 45,.move (.t 5),none,[]⟩,
 ⟨some 46,.bin .add (.t 45) (.c (.d (.int .i64 1))),none,[]⟩,
 ⟨some 5,.move (.t 46),none,[]⟩]
def qwy:VCode:=(.seq (.seq (.region false 0 [2,3,5,44] qk5) (.cond (.t 44) .skip (.exit 0))) (.seq (.block 1 (.seq (.region true 0 [2,3,5,58] qt3) (.cond (.t 58) (.seq (.region true 0 [4] qt2) .ret) .skip))) (.region false 0 [2,3,5] qk4)))
def qfJ:List VOper:=[
 ⟨some 4,.move (.c (.d (.bool false))),none,[]⟩]
def v84:VFn:=⟨2,[.tmp 4],(.seq (.region false 2 [2,3] qld) (.seq (.seq (.region false 0 [2,3,10] qlc) (.cond (.t 10) (.seq (.region false 0 [4] qlb) .ret) .skip)) (.seq (.seq (.region false 0 [2,3,20] qla) (.cond (.t 20) (.seq (.region false 0 [4] qk9) .ret) .skip)) (.seq (.seq (.region false 0 [2,3,32] qk8) (.cond (.t 32) (.seq (.region false 0 [4] qk7) .ret) .skip)) (.seq (.seq (.region false 0 [2,3,5] qk6) (.block 0 (.loop [2,3,5] qwy))) (.seq (.region false 0 [4] qfJ) .ret))))))⟩
def qEg:List VOper:=[
 ⟨some 2,.move (.c (.d (.int .i64 0))),none,[]⟩]
def qEf:List VOper:=[
 ⟨some 3,.move (.t 0),none,[]⟩]
def qEe:List VOper:=[
 ⟨some 2,.move (.c (.d (.int .i64 1))),none,[]⟩]
def qEd:List VOper:=[
 ⟨some 2,.move (.c (.d (.int .i64 0))),none,[]⟩]
def v85:VFn:=⟨1,[.tmp 2],(.seq (.region false 0 [0] qEg) (.seq (.seq (.region false 0 [3] qEf) (.cond (.t 3) (.seq (.region false 0 [2] qEe) .ret) .skip)) (.seq (.region false 0 [2] qEd) .ret)))⟩
def qz5:List VOper:=[
 ⟨some 1,.box 0 (.t 0),none,[]⟩,
 ⟨some 2,.move (.c (.d (.bool false))),none,[]⟩]
def qz4:List VOper:=[
 ⟨some 3,.load true 3 (.t 1),none,[]⟩,
 ⟨some 4,.call true (.c (.fn 110 [])) [.t 3],none,[]⟩,
 ⟨some 5,.len false (.t 4),none,[]⟩,
 ⟨some 6,.bin .eql (.t 5) (.c (.d (.int .i64 0))),none,[]⟩,
 ⟨some 2,.move (.t 6),none,[]⟩]
def qDj:VFn:=⟨1,[.tmp 2],(.seq (.region false 1 [1] qz5) (.seq (.region false 0 [2] qz4) .ret))⟩
def qz3:List VOper:=[
 ⟨some 1,.box 0 (.t 0),none,[]⟩,
 ⟨some 2,.move (.c (.d (.bool false))),none,[]⟩]
def qz2:List VOper:=[
 ⟨some 3,.load true 3 (.t 1),none,[]⟩,
 ⟨some 4,.call true (.c (.fn 104 [])) [.t 3],none,[]⟩,
 ⟨some 5,.len false (.t 4),none,[]⟩,
 ⟨some 6,.bin .eql (.t 5) (.c (.d (.int .i64 0))),none,[]⟩,
 ⟨some 2,.move (.t 6),none,[]⟩]
def qDi:VFn:=⟨1,[.tmp 2],(.seq (.region false 1 [1] qz3) (.seq (.region false 0 [2] qz2) .ret))⟩
def qz1:List VOper:=[
 ⟨some 1,.box 0 (.t 0),none,[]⟩,
 ⟨some 2,.move (.c (.d (.sl .nil []))),none,[]⟩]
def qz0:List VOper:=[
 ⟨some 4,.buildSlice 1 (.int .i64 0) 0 [],none,[]⟩,
 ⟨some 3,.alloc 0 [.sl .nil []],none,[]⟩,
 ⟨none,.store false 1 (.t 3) (.t 4),none,[]⟩]
def qzZ:List VOper:=[
 ⟨some 5,.load true 3 (.t 1),none,[]⟩,
 ⟨some 6,.makeFunc 105 [.t 3],none,[]⟩,
 ⟨some 7,.call false (.c (.fn 25 [])) [.t 5,.t 6],none,[]⟩]
def qzY:List VOper:=[
 ⟨some 8,.load false 1 (.t 3),none,[]⟩,
 ⟨some 2,.move (.t 8),none,[]⟩]
def qDh:VFn:=⟨1,[.tmp 2],(.seq (.region false 1 [1] qz1) (.seq (.region false 1 [1,3] qz0) (.seq (.region false 0 [3] qzZ) (.seq (.region false 0 [2] qzY) .ret))))⟩
def quR:List VOper:=[
 ⟨some 2,.box 0 (.t 0),none,[]⟩]
def quQ:List VOper:=[
 ⟨some 3,.load true 3 (.t 2),none,[]⟩,
 ⟨some 4,.call true (.c (.fn 75 [])) [.t 3],none,[]⟩]
def quP:List VOper:=[
 ⟨some 5,.load false 1 (.t 1),none,[]⟩,
 ⟨some 6,.fieldAddr 1 (.t 2),none,[]⟩,
 ⟨some 7,.load false 1 (.t 6),none,[]⟩,
 ⟨some 8,.call true (.c (.fn 106 [])) [.t 5,.t 7],none,[]⟩,
 ⟨none,.store false 1 (.t 1) (.t 8),none,[]⟩]
def qBm:VFn:=⟨2,[],(.seq (.region false 1 [1,2] quR) (.seq (.region false 0 [1,2,4] quQ) (.cond (.t 4) (.region false 0 [] quP) .skip)))⟩
def qFk:List VOper:=[
 ⟨some 3,.box 0 (.t 1),none,[]⟩,
 ⟨some 4,.move (.c (.d (.sl .nil []))),none,[]⟩]
def qFj:List VOper:=[
 ⟨some 7,.move (.t 0),none,[]⟩,
 ⟨some 8,.call true (.c (.fn 107 [])) [.t 7],none,[]⟩,
 ⟨some 5,.move (.t 8),none,[]⟩]
def qFi:List VOper:=[
 ⟨some 9,.move (.t 0),none,[]⟩,
 ⟨some 10,.load false 1 (.t 3),none,[]⟩,
 ⟨some 11,.call true (.c (.fn 54 [])) [.t 9,.t 10],none,[]⟩]
def qFh:List VOper:=[
 ⟨some 12,.move (.t 5),none,[]⟩,
 ⟨some 4,.move (.t 12),none,[]⟩]
def qFg:List VOper:=[
 ⟨some 13,.move (.t 0),none,[]⟩,
 ⟨some 14,.makeFunc 108 [.t 3],none,[]⟩,
 ⟨some 15,.call false (.c (.fn 47 [])) [.t 13,.t 14],none,[]⟩,
 ⟨some 6,.move (.t 15),none,[]⟩]
def qFf:List VOper:=[
 ⟨some 16,.move (.t 6),none,[]⟩,
 ⟨some 17,.bin .lss (.t 16) (.c (.d (.int .i64 0))),none,[]⟩]
def qFe:List VOper:=[
 ⟨some 18,.move (.t 0),none,[]⟩,
 ⟨some 19,.len false (.t 18),none,[]⟩,
 ⟨some 6,.move (.t 19),none,[]⟩]
def qFd:List VOper:=[
 ⟨some 20,.move (.t 5),none,[]⟩,
 ⟨some 21,.move (.t 6),none,[]⟩,
 ⟨some 22,.load false 1 (.t 3),none,[]⟩,
 ⟨some 23,.buildSlice 1 (.int .i64 0) 1 [(0,.t 22)],none,[]⟩,
 ⟨some 24,.call true (.c (.fn 109 [])) [.t 20,.t 21,.t 23],none,[]⟩,
 ⟨some 4,.move (.t 24),none,[]⟩]
def qG5:VFn:=⟨2,[.tmp 4],(.seq (.region false 1 [0,3] qFk) (.seq (.region false 0 [0,3,5] qFj) (.seq (.seq (.region false 0 [0,3,5,11] qFi) (.cond (.t 11) (.seq (.region false 0 [4] qFh) .ret) .skip)) (.seq (.region false 0 [0,3,5,6] qFg) (.seq (.seq (.region false 0 [0,3,5,6,17] qFf) (.cond (.t 17) (.region false 0 [3,5,6] qFe) .skip)) (.seq (.region false 0 [4] qFd) .ret))))))⟩
def qFc:List VOper:=[
 ⟨some 2,.move (.c (.d (.sl .nil []))),none,[]⟩]
def qFb:List VOper:=[
 ⟨some 3,.move (.t 0),none,[]⟩,
 ⟨some 4,.eqNil false (.t 3),none,[]⟩]
def qFa:List VOper:=[
 ⟨some 2,.move (.c (.d (.sl .nil []))),none,[]⟩]
def qE9:List VOper:=[
 ⟨some 5,.buildSlice 1 (.int .i64 0) 0 [],none,[]⟩,
 ⟨some 6,.move (.t 0),none,[]⟩,
 ⟨some 7,.append 1 8 (.t 5) (.t 6),none,[]⟩,
 ⟨some 2,.move (.t 7),none,[]⟩]
def qG4:VFn:=⟨1,[.tmp 2],(.seq (.region false 0 [0] qFc) (.seq (.seq (.region false 0 [0,4] qFb) (.cond (.t 4) (.seq (.region false 0 [2] qFa) .ret) .skip)) (.seq (.region false 0 [2] qE9) .ret)))⟩
def qzX:List VOper:=[
 ⟨some 3,.move (.c (.d (.bool false))),none,[]⟩]
def qzW:List VOper:=[
 ⟨some 4,.move (.t 0),none,[]⟩,
 ⟨some 5,.load false 1 (.t 1),none,[]⟩,
 ⟨some 6,.bin .gtr (.t 4) (.t 5),none,[]⟩,
 ⟨some 3,.move (.t 6),none,[]⟩]
def qzl:VFn:=⟨2,[.tmp 3],(.seq (.region false 0 [0,1] qzX) (.seq (.region false 0 [3] qzW) .ret))⟩
def qzV:List VOper:=[
 ⟨some 1,.box 0 (.t 0),none,[]⟩,
 ⟨some 2,.move (.c (.d (.sl .nil []))),none,[]⟩]
def qzU:List VOper:=[
 ⟨some 3,.load true 3 (.t 1),none,[]⟩,
 ⟨some 4,.buildSlice 1 (.int .i64 0) 0 [],none,[]⟩,
 ⟨some 5,.call true (.c (.fn 111 [])) [.t 3,.t 4],none,[]⟩,
 ⟨some 2,.move (.t 5),none,[]⟩]
def qDg:VFn:=⟨1,[.tmp 2],(.seq (.region false 1 [1] qzV) (.seq (.region false 0 [2] qzU) .ret))⟩
def qi6:List VOper:=[
 ⟨some 2,.box 0 (.t 0),none,[]⟩,
 ⟨some 4,.move (.c (.d (.sl .nil []))),none,[]⟩]
def qi5:List VOper:=[
 ⟨some 6,.fieldAddr 0 (.t 2),none,[]⟩,
 ⟨some 7,.load false 1 (.t 6),none,[]⟩,
 ⟨some 8,.bin .eql (.t 7) (.c (.d (.int .i64 (-1)))),none,[]⟩]
def qi4:List VOper:=[
 ⟨some 9,.move (.t 1),none,[]⟩,
 ⟨some 10,.fieldAddr 1 (.t 2),none,[]⟩,
 ⟨some 11,.load false 1 (.t 10),none,[]⟩,
 ⟨some 12,.call true (.c (.fn 112 [])) [.t 9,.t 11],none,[]⟩,
 ⟨some 1,.move (.t 12),none,[]⟩]
def qi3:List VOper:=[
 ⟨some 5,.move (.c (.d (.int .i64 0))),none,[]⟩]
def qi2:List VOper:=[
 ⟨some 13,.move (.t 5),none,[]⟩,
 ⟨some 14,.fieldAddr 2 (.t 2),none,[]⟩,
 ⟨some 15,.load false 1 (.t 14),none,[]⟩,
 ⟨some 16,.len false (.t 15),none,[]⟩,
 ⟨some 17,.bin .lss (.t 13) (.t 16),none,[]⟩]
def qi0:List VOper:=[
 ⟨some 20,.fieldAddr 2 (.t 2),none,[]⟩,
 ⟨some 21,.load false 1 (.t 20),none,[]⟩,
 ⟨some 22,.move (.t 5),none,[]⟩,
 ⟨some 23,.indexAddr 3 none (.t 21) (.t 22),none,[]⟩,
 ⟨some 24,.load true 3 (.t 23),none,[]⟩,
 ⟨some 25,.move (.t 1),none,[]⟩,
 ⟨some 26,.call true (.c (.fn 111 [])) [.t 24,.t 25],none,[]⟩,
 ⟨some 1,.move (.t 26),none,[]⟩]
def qi1:List VOper:=[
 ⟨some 18,.move (.t 5),none,[]⟩,
 ⟨some 19,.bin .add (.t 18) (.c (.d (.int .i64 1))),none,[]⟩,
 ⟨some 5,.move (.t 19),none,[]⟩]
def qqt:VCode:=(.seq (.seq (.region false 0 [1,2,5,17] qi2) (.cond (.t 17) .skip (.exit 0))) (.seq (.block 1 (.region false 0 [1,2,5] qi0)) (.region false 0 [1,2,5] qi1)))
def qiZ:List VOper:=[
 ⟨some 27,.move (.t 1),none,[]⟩,
 ⟨some 4,.move (.t 27),none,[]⟩]
def qxS:VFn:=⟨2,[.tmp 4],(.seq (.region false 1 [1,2] qi6) (.seq (.seq (.region false 0 [1,2,8] qi5) (.cond (.t 8) (.region false 0 [1,2] qi4) .skip)) (.seq (.seq (.region false 0 [1,2,5] qi3) (.block 0 (.loop [1,2,5] qqt))) (.seq (.region false 0 [4] qiZ) .ret))))⟩
def qiY:List VOper:=[
 ⟨some 4,.move (.c (.d (.sl .nil []))),none,[]⟩]
def qiX:List VOper:=[
 ⟨some 7,.move (.t 0),none,[]⟩,
 ⟨some 8,.move (.t 1),none,[]⟩,
 ⟨some 9,.call true (.c (.fn 53 [])) [.t 7,.t 8],none,[]⟩]
def qiW:List VOper:=[
 ⟨some 10,.buildSlice 1 (.int .i64 0) 0 [],none,[]⟩,
 ⟨some 11,.move (.t 0),none,[]⟩,
 ⟨some 12,.append 1 8 (.t 10) (.t 11),none,[]⟩,
 ⟨some 4,.move (.t 12),none,[]⟩]
def qiV:List VOper:=[
 ⟨some 5,.move (.c (.d (.int .i64 0))),none,[]⟩]
def qiU:List VOper:=[
 ⟨some 13,.move (.t 5),none,[]⟩,
 ⟨some 14,.move (.t 0),none,[]⟩,
 ⟨some 15,.len false (.t 14),none,[]⟩,
 ⟨some 16,.bin .lss (.t 13) (.t 15),none,[]⟩,
 ⟨some 17,.move (.t 16),none,[]⟩,
 ⟨some 18,.move (.t 0),some (17,true),[]⟩,
 ⟨some 19,.move (.t 5),some (17,true),[]⟩,
 ⟨some 20,.indexAddr 1 none (.t 18) (.t 19),some (17,true),[]⟩,
 ⟨some 21,.load false 1 (.t 20),some (17,true),[]⟩,
 ⟨some 22,.move (.t 1),some (17,true),[]⟩,
 ⟨some 23,.bin .lss (.t 21) (.t 22),some (17,true),[]⟩,
 ⟨some 24,.pick (.t 17) (.t 23) (.c (.d (.bool false))),none,[]⟩]
def qiT:List VOper:=[
 ⟨some 25,.move (.t 5),none,[]⟩,
 ⟨some 26,.bin .add (.t 25) (.c (.d (.int .i64 1))),none,[]⟩,
 ⟨some 5,.move (.t 26),none,[]⟩]
def qkE:VCode:=(.seq (.seq (.region false 0 [0,1,5,24] qiU) (.cond (.t 24) .skip (.exit 0))) (.block 1 (.region false 0 [0,1,5] qiT)))
def qiS:List VOper:=[
 ⟨some 27,.buildSlice 1 (.int .i64 0) 0 [],none,[]⟩,
 ⟨some 28,.move (.t 0),none,[]⟩,
 ⟨some 29,.move (.t 5),none,[]⟩,
 ⟨some 30,.slice false 1 (.t 28) none (some (.t 29)),none,[]⟩,
 ⟨some 31,.append 1 8 (.t 27) (.t 30),none,[]⟩,
 ⟨some 6,.move (.t 31),none,[]⟩]
def qiR:List VOper:=[
 ⟨some 32,.move (.t 6),none,[]⟩,
 ⟨some 33,.move (.t 1),none,[]⟩,
 ⟨some 34,.buildSlice 1 (.int .i64 0) 1 [(0,.t 33)],none,[]⟩,
 ⟨some 35,.append 1 8 (.t 32) (.t 34),none,[]⟩,
 ⟨some 6,.move (.t 35),none,[]⟩]
def qiQ:List VOper:=[
 ⟨some 36,.move (.t 6),none,[]⟩,
 ⟨some 37,.move (.t 0),none,[]⟩,
 ⟨some 38,.move (.t 5),none,[]⟩,
 ⟨some 39,.slice false 1 (.t 37) (some (.t 38)) none,none,[]⟩,
 ⟨some 40,.append 1 8 (.t 36) (.t 39),none,[]⟩,
 ⟨some 4,.move (.t 40),none,[]⟩]
def qzk:VFn:=⟨2,[.tmp 4],(.seq (.region false 0 [0,1] qiY) (.seq (.seq (.region false 0 [0,1,9] qiX) (.cond (.t 9) (.seq (.region false 0 [4] qiW) .ret) .skip)) (.seq (.region false 0 [0,1,5] qiV) (.seq (.block 0 (.loop [0,1,5] qkE)) (.seq (.region false 0 [0,1,5,6] qiS) (.seq (.region false 0 [0,5,6] qiR) (.seq (.region false 0 [4] qiQ) .ret)))))))⟩
def qf6:List VOper:=[
 ⟨some 3,.box 0 (.t 1),none,[]⟩,
 ⟨some 4,.move (.c (.d (.int .i64 0))),none,[]⟩]
def qf5:List VOper:=[
 ⟨some 5,.move (.c (.d (.int .i64 1))),none,[]⟩]
def qf4:List VOper:=[
 ⟨some 7,.move (.t 0),none,[]⟩,
 ⟨some 8,.fieldAddr 0 (.t 3),none,[]⟩,
 ⟨some 9,.load false 1 (.t 8),none,[]⟩,
 ⟨some 10,.call true (.c (.fn 33 [])) [.t 7,.t 9],none,[]⟩,
 ⟨some 11,.move (.t 10),none,[]⟩,
 ⟨some 12,.fieldAddr 2 (.t 3),some (11,true),[]⟩,
 ⟨some 13,.load false 1 (.t 12),some (11,true),[]⟩,
 ⟨some 14,.len false (.t 13),some (11,true),[]⟩,
 ⟨some 15,.bin .gtr (.t 14) (.c (.d (.int .i64 0))),some (11,true),[]⟩,
 ⟨some 16,.pick (.t 11) (.t 15) (.c (.d (.bool false))),none,[]⟩]
def qf3:List VOper:=[
 ⟨some 17,.fieldAddr 2 (.t 3),none,[]⟩,
 ⟨some 18,.load false 1 (.t 17),none,[]⟩,
 ⟨some 19,.len false (.t 18),none,[]⟩,
 ⟨some 20,.bin .sub (.t 19) (.c (.d (.int .i64 1))),none,[]⟩,
 ⟨some 5,.move (.t 20),none,[]⟩]
def qf2:List VOper:=[
 ⟨some 6,.move (.c (.d (.int .i64 0))),none,[]⟩]
def qf1:List VOper:=[
 ⟨some 21,.move (.t 6),none,[]⟩,
 ⟨some 22,.fieldAddr 2 (.t 3),none,[]⟩,
 ⟨some 23,.load false 1 (.t 22),none,[]⟩,
 ⟨some 24,.len false (.t 23),none,[]⟩,
 ⟨some 25,.bin .lss (.t 21) (.t 24),none,[]⟩]
def qfZ:List VOper:=[
 ⟨some 28,.move (.t 5),none,[]⟩,
 ⟨some 29,.move (.t 0),none,[]⟩,
 ⟨some 30,.fieldAddr 2 (.t 3),none,[]⟩,
 ⟨some 31,.load false 1 (.t 30),none,[]⟩,
 ⟨some 32,.move (.t 6),none,[]⟩,
 ⟨some 33,.indexAddr 3 none (.t 31) (.t 32),none,[]⟩,
 ⟨some 34,.load true 3 (.t 33),none,[]⟩,
 ⟨some 35,.call true (.c (.fn 117 [])) [.t 29,.t 34],none,[]⟩,
 ⟨some 36,.bin .add (.t 28) (.t 35),none,[]⟩,
 ⟨some 5,.move (.t 36),none,[]⟩]
def qf0:List VOper:=[
 ⟨some 26,.move (.t 6),none,[]⟩,
 ⟨some 27,.bin .add (.t 26) (.c (.d (.int .i64 1))),none,[]⟩,
 ⟨some 6,.move (.t 27),none,[]⟩]
def qqs:VCode:=(.seq (.seq (.region false 0 [0,3,5,6,25] qf1) (.cond (.t 25) .skip (.exit 0))) (.seq (.block 1 (.region false 0 [0,3,5,6] qfZ)) (.region false 0 [0,3,5,6] qf0)))
def qfY:List VOper:=[
 ⟨some 37,.move (.t 5),none,[]⟩,
 ⟨some 4,.move (.t 37),none,[]⟩]
def qtG:VFn:=⟨2,[.tmp 4],(.seq (.region false 1 [0,3] qf6) (.seq (.region false 0 [0,3,5] qf5) (.seq (.seq (.region false 0 [0,3,5,16] qf4) (.cond (.t 16) (.region false 0 [0,3,5] qf3) .skip)) (.seq (.seq (.region false 0 [0,3,5,6] qf2) (.block 0 (.loop [0,3,5,6] qqs))) (.seq (.region false 0 [4] qfY) .ret)))))⟩
def qfX:List VOper:=[
 ⟨some 3,.box 0 (.t 1),none,[]⟩,
 ⟨some 4,.move (.c (.d (.int .i64 0))),none,[]⟩]
def qfW:List VOper:=[
 ⟨some 5,.move (.c (.d (.int .i64 1))),none,[]⟩]
def qfV:List VOper:=[
 ⟨some 8,.move (.t 0),none,[]⟩,
 ⟨some 9,.fieldAddr 0 (.t 3),none,[]⟩,
 ⟨some 10,.load false 1 (.t 9),none,[]⟩,
 ⟨some 11,.call true (.c (.fn 34 [])) [.t 8,.t 10],none,[]⟩,
 ⟨some 12,.move (.t 11),none,[]⟩,
 ⟨some 13,.fieldAddr 2 (.t 3),some (12,true),[]⟩,
 ⟨some 14,.load false 1 (.t 13),some (12,true),[]⟩,
 ⟨some 15,.len false (.t 14),some (12,true),[]⟩,
 ⟨some 16,.bin .gtr (.t 15) (.c (.d (.int .i64 0))),some (12,true),[]⟩,
 ⟨some 17,.pick (.t 12) (.t 16) (.c (.d (.bool false))),none,[]⟩]
def qfU:List VOper:=[
 ⟨some 18,.fieldAddr 2 (.t 3),none,[]⟩,
 ⟨some 19,.load false 1 (.t 18),none,[]⟩,
 ⟨some 20,.len false (.t 19),none,[]⟩,
 ⟨some 21,.bin .sub (.t 20) (.c (.d (.int .i64 1))),none,[]⟩,
 ⟨some 5,.move (.t 21),none,[]⟩]
def qfT:List VOper:=[
 ⟨some 22,.fieldAddr 2 (.t 3),none,[]⟩,
 ⟨some 23,.load false 1 (.t 22),none,[]⟩,
 ⟨some 24,.len false (.t 23),none,[]⟩,
 ⟨some 25,.move (.c (.d (.int .i64 0))),none,[]⟩]
def qfS:List VOper:=[
 ⟨some 26,.bin .lss (.t 25) (.t 24),none,[]⟩]
def qfR:List VOper:=[
 ⟨some 27,.indexAddr 3 none (.t 23) (.t 25),none,[]⟩,
 ⟨some 28,.load true 3 (.t 27),none,[]⟩,
 ⟨some 7,.alloc 0 [.int .i64 0,.int .i64 0,.sl .nil []],none,[]⟩,
 ⟨none,.store false 3 (.t 7) (.t 28),none,[]⟩]
def qfQ:List VOper:=[
 ⟨some 29,.move (.t 5),none,[]⟩,
 ⟨some 30,.move (.t 0),none,[]⟩,
 ⟨some 31,.load true 3 (.t 7),none,[]⟩,
 ⟨some 32,.call true (.c (.fn 118 [])) [.t 30,.t 31],none,[]⟩,
 ⟨some 33,.bin .add (.t 29) (.t 32),none,[]⟩,
 ⟨some 5,.move (.t 33),none,[]⟩]
def qfP:List VOper:=[
 ⟨some 34,.bin .add (.t 25) (.c (.d (.int .i64 1))),none,[]⟩,
 ⟨some 25,.move (.t 34),none,[]⟩]
def qqr:VCode:=(.seq (.region false 0 [0,5,23,24,25,26] qfS) (.seq (.cond (.t 26) .skip (.exit 0)) (.seq (.block 1 (.seq (.region false 1 [0,5,7,23,24,25] qfR) (.region false 0 [0,5,23,24,25] qfQ))) (.region false 0 [0,5,23,24,25] qfP))))
def qfO:List VOper:=[
 ⟨some 35,.move (.t 5),none,[]⟩,
 ⟨some 4,.move (.t 35),none,[]⟩]
def qtF:VFn:=⟨2,[.tmp 4],(.seq (.region false 1 [0,3] qfX) (.seq (.region false 0 [0,3,5] qfW) (.seq (.seq (.region false 0 [0,3,5,17] qfV) (.cond (.t 17) (.region false 0 [0,3,5] qfU) .skip)) (.seq (.seq (.region false 0 [0,5,23,24,25] qfT) (.block 0 (.loop [0,5,23,24,25] qqr))) (.seq (.region false 0 [4] qfO) .ret)))))⟩
def qzT:List VOper:=[
 ⟨some 2,.move (.c (.d (.bool false))),none,[]⟩]
def qzS:List VOper:=[
 ⟨some 3,.move (.t 0),none,[]⟩,
 ⟨some 4,.len false (.t 3),none,[]⟩,
 ⟨some 5,.bin .gtr (.t 4) (.c (.d (.int .i64 1048576))),none,[]⟩,
 ⟨some 2,.move (.t 5),none,[]⟩]
def qDf:VFn:=⟨1,[.tmp 2],(.seq (.region false 0 [0] qzT) (.seq (.region false 0 [2] qzS) .ret))⟩
def qmI:List VOper:=[
 ⟨some 1,.box 0 (.t 0),none,[]⟩,
 ⟨some 2,.alloc 1 [.int .i64 0,.int .i64 0,.sl .nil []],none,[]⟩]
def qmH:List VOper:=[
 ⟨some 5,.fieldAddr 0 (.t 1),none,[]⟩,
 ⟨some 6,.load false 1 (.t 5),none,[]⟩,
 ⟨some 7,.fieldAddr 1 (.t 1),none,[]⟩,
 ⟨some 8,.load false 1 (.t 7),none,[]⟩,
 ⟨some 9,.build [.int .i64 0,.int .i64 0,.sl .nil []] [(0,1,.t 6),(1,1,.t 8)],none,[]⟩,
 ⟨some 3,.alloc 0 [.int .i64 0,.int .i64 0,.sl .nil []],none,[]⟩,
 ⟨none,.store false 3 (.t 3) (.t 9),none,[]⟩]
def qmG:List VOper:=[
 ⟨some 4,.move (.c (.d (.int .i64 0))),none,[]⟩]
def qmF:List VOper:=[
 ⟨some 10,.move (.t 4),none,[]⟩,
 ⟨some 11,.fieldAddr 2 (.t 1),none,[]⟩,
 ⟨some 12,.load false 1 (.t 11),none,[]⟩,
 ⟨some 13,.len false (.t 12),none,[]⟩,
 ⟨some 14,.bin .lss (.t 10) (.t 13),none,[]⟩]
def quO:List VOper:=[
 ⟨some 17,.fieldAddr 2 (.t 3),none,[]⟩,
 ⟨some 18,.load false 1 (.t 17),none,[0]⟩,
 ⟨some 19,.fieldAddr 2 (.t 1),none,[]⟩,
 ⟨some 20,.load false 1 (.t 19),none,[2]⟩,
 ⟨some 21,.move (.t 4),none,[]⟩,
 ⟨some 22,.indexAddr 3 none (.t 20) (.t 21),none,[3,4]⟩,
 ⟨some 23,.load true 3 (.t 22),none,[5]⟩,
 ⟨some 24,.call true (.c (.fn 146 [])) [.t 23],none,[6]⟩,
 ⟨some 25,.buildSlice 3 (.agg [.int .i64 0,.int .i64 0,.sl .nil []]) 1 [(0,.t 24)],none,[7]⟩,
 ⟨some 26,.append 3 40 (.t 18) (.t 25),none,[1,7,8]⟩,
 ⟨some 27,.fieldAddr 2 (.t 3),none,[0,1,2,3,4,5,6,7,8,9]⟩,
 ⟨none,.store false 1 (.t 27) (.t 26),none,[0,1,2,3,4,5,6,7,8,9,10]⟩]
def qmE:List VOper:=[
 ⟨some 15,.move (.t 4),none,[]⟩,
 ⟨some 16,.bin .add (.t 15) (.c (.d (.int .i64 1))),none,[]⟩,
 ⟨some 4,.move (.t 16),none,[]⟩]
def qqq:VCode:=(.seq (.seq (.region false 0 [1,2,3,4,14] qmF) (.cond (.t 14) .skip (.exit 0))) (.seq (.block 1 (.region true 0 [1,2,3,4] quO)) (.region false 0 [1,2,3,4] qmE)))
def qmD:List VOper:=[
 ⟨some 28,.load true 3 (.t 3),none,[]⟩,
 ⟨none,.store false 3 (.t 2) (.t 28),none,[]⟩]
def qBl:VFn:=⟨1,[.cell 2 true 3],(.seq (.region false 2 [1,2] qmI) (.seq (.region false 1 [1,2,3] qmH) (.seq (.seq (.region false 0 [1,2,3,4] qmG) (.block 0 (.loop [1,2,3,4] qqq))) (.seq (.region false 0 [2] qmD) .ret))))⟩
def qzR:List VOper:=[
 ⟨some 2,.alloc 0 [.int .i64 0,.int .i64 0,.sl .nil []],none,[]⟩]
def qzQ:List VOper:=[
 ⟨some 3,.move (.t 0),none,[]⟩,
 ⟨some 4,.build [.int .i64 0,.int .i64 0,.sl .nil []] [(0,1,.c (.d (.int .i64 (-1)))),(1,1,.t 3)],none,[]⟩,
 ⟨none,.store false 3 (.t 2) (.t 4),none,[]⟩]
def qDe:VFn:=⟨1,[.cell 2 true 3],(.seq (.region false 1 [0,2] qzR) (.seq (.region false 0 [2] qzQ) .ret))⟩
def qzP:List VOper:=[
 ⟨some 1,.box 0 (.t 0),none,[]⟩,
 ⟨some 2,.alloc 1 [.int .i64 0,.int .i64 0,.sl .nil []],none,[]⟩]
def qzO:List VOper:=[
 ⟨some 3,.fieldAddr 2 (.t 1),none,[]⟩,
 ⟨some 4,.load false 1 (.t 3),none,[]⟩,
 ⟨some 5,.call true (.c (.fn 151 [])) [.t 4],none,[]⟩,
 ⟨some 6,.fieldAddr 2 (.t 1),none,[]⟩,
 ⟨none,.store false 1 (.t 6) (.t 5),none,[]⟩]
def qzN:List VOper:=[
 ⟨some 7,.load true 3 (.t 1),none,[]⟩,
 ⟨none,.store false 3 (.t 2) (.t 7),none,[]⟩]
def qDd:VFn:=⟨1,[.cell 2 true 3],(.seq (.region false 2 [1,2] qzP) (.seq (.region false 0 [1,2] qzO) (.seq (.region false 0 [2] qzN) .ret)))⟩
def qpE:List VOper:=[
 ⟨some 2,.move (.c (.d (.sl .nil []))),none,[]⟩]
def qpD:List VOper:=[
 ⟨some 6,.buildSlice 3 (.agg [.int .i64 0,.int .i64 0,.sl .nil []]) 0 [],none,[]⟩,
 ⟨some 3,.move (.t 6),none,[]⟩]
def qpC:List VOper:=[
 ⟨some 7,.move (.t 0),none,[]⟩,
 ⟨some 8,.len false (.t 7),none,[]⟩,
 ⟨some 9,.move (.c (.d (.int .i64 0))),none,[]⟩]
def quN:List VOper:=[
 ⟨some 10,.bin .lss (.t 9) (.t 8),none,[]⟩]
def quM:List VOper:=[
 ⟨some 11,.indexAddr 3 none (.t 7) (.t 9),none,[]⟩,
 ⟨some 12,.load true 3 (.t 11),none,[]⟩,
 ⟨some 5,.alloc 0 [.int .i64 0,.int .i64 0,.sl .nil []],none,[]⟩,
 ⟨none,.store false 3 (.t 5) (.t 12),none,[]⟩]
def quL:List VOper:=[
 ⟨some 13,.move (.t 3),none,[]⟩,
 ⟨some 14,.load true 3 (.t 5),none,[]⟩,
 ⟨some 15,.call true (.c (.fn 150 [])) [.t 14],none,[]⟩,
 ⟨some 16,.buildSlice 3 (.agg [.int .i64 0,.int .i64 0,.sl .nil []]) 1 [(0,.t 15)],none,[]⟩,
 ⟨some 17,.append 3 40 (.t 13) (.t 16),none,[]⟩,
 ⟨some 3,.move (.t 17),none,[]⟩]
def quK:List VOper:=[
 ⟨some 18,.bin .add (.t 9) (.c (.d (.int .i64 1))),none,[]⟩,
 ⟨some 9,.move (.t 18),none,[]⟩]
def qqp:VCode:=(.seq (.region false 0 [3,7,8,9,10] quN) (.seq (.cond (.t 10) .skip (.exit 0)) (.seq (.block 1 (.seq (.region false 1 [3,5,7,8,9] quM) (.region false 0 [3,7,8,9] quL))) (.region false 0 [3,7,8,9] quK))))
def qmC:List VOper:=[
 ⟨some 19,.move (.t 3),none,[]⟩,
 ⟨some 2,.move (.t 19),none,[]⟩]
def qDc:VFn:=⟨1,[.tmp 2],(.seq (.region false 0 [0] qpE) (.seq (.region false 0 [0,3] qpD) (.seq (.seq (.region false 0 [3,7,8,9] qpC) (.block 0 (.loop [3,7,8,9] qqp))) (.seq (.region false 0 [2] qmC) .ret))))⟩
def qfN:List VOper:=[
 ⟨some 3,.box 0 (.t 1),none,[]⟩,
 ⟨some 4,.alloc 1 [.int .i64 0,.int .i64 0,.sl .nil []],none,[]⟩]
def qfM:List VOper:=[
 ⟨some 9,.fieldAddr 0 (.t 3),none,[]⟩,
 ⟨some 10,.load false 1 (.t 9),none,[]⟩,
 ⟨some 11,.fieldAddr 1 (.t 3),none,[]⟩,
 ⟨some 12,.load false 1 (.t 11),none,[]⟩,
 ⟨some 13,.build [.int .i64 0,.int .i64 0,.sl .nil []] [(0,1,.t 10),(1,1,.t 12)],none,[]⟩,
 ⟨some 5,.alloc 0 [.int .i64 0,.int .i64 0,.sl .nil []],none,[]⟩,
 ⟨none,.store false 3 (.t 5) (.t 13),none,[]⟩]
def qfL:List VOper:=[
 ⟨some 6,.move (.c (.d (.int .i64 0))),none,[]⟩]
def qhH:List VOper:=[
 ⟨some 14,.move (.t 6),none,[]⟩,
 ⟨some 15,.fieldAddr 2 (.t 3),none,[]⟩,
 ⟨some 16,.load false 1 (.t 15),none,[]⟩,
 ⟨some 17,.len false (.t 16),none,[]⟩,
 ⟨some 18,.bin .lss (.t 14) (.t 17),none,[]⟩]
def qhF:List VOper:=[
 ⟨some 21,.move (.t 0),none,[]⟩,
 ⟨some 22,.fieldAddr 2 (.t 3),none,[]⟩,
 ⟨some 23,.load false 1 (.t 22),none,[]⟩,
 ⟨some 24,.move (.t 6),none,[]⟩,
 ⟨some 25,.indexAddr 3 none (.t 23) (.t 24),none,[]⟩,
 ⟨some 26,.load true 3 (.t 25),none,[]⟩,
 ⟨some 27,.call true (.c (.fn 153 [])) [.t 21,.t 26],none,[]⟩,
 ⟨some 7,.alloc 0 [.int .i64 0,.int .i64 0,.sl .nil []],none,[]⟩,
 ⟨none,.store false 3 (.t 7) (.t 27),none,[]⟩]
def qex:List VOper:=[
 ⟨some 45,.move (.t 0),none,[]⟩,
 ⟨some 46,.fieldAddr 0 (.t 3),none,[]⟩,
 ⟨some 47,.load false 1 (.t 46),none,[]⟩,
 ⟨some 48,.call true (.c (.fn 33 [])) [.t 45,.t 47],none,[]⟩,
 ⟨some 49,.not (.t 48),none,[]⟩,
 ⟨some 44,.move (.t 49),none,[]⟩]
def qew:List VOper:=[
 ⟨some 50,.fieldAddr 2 (.t 5),none,[]⟩,
 ⟨some 51,.load false 1 (.t 50),none,[]⟩,
 ⟨some 52,.load true 3 (.t 7),none,[]⟩,
 ⟨some 53,.buildSlice 3 (.agg [.int .i64 0,.int .i64 0,.sl .nil []]) 1 [(0,.t 52)],none,[]⟩,
 ⟨some 54,.append 3 40 (.t 51) (.t 53),none,[]⟩,
 ⟨some 55,.fieldAddr 2 (.t 5),none,[]⟩,
 ⟨none,.store false 1 (.t 55) (.t 54),none,[]⟩]
def qev:List VOper:=[
 ⟨some 57,.fieldAddr 0 (.t 7),none,[]⟩,
 ⟨some 58,.load false 1 (.t 57),none,[]⟩,
 ⟨some 59,.fieldAddr 0 (.t 3),none,[]⟩,
 ⟨some 60,.load false 1 (.t 59),none,[]⟩,
 ⟨some 61,.bin .neq (.t 58) (.t 60),none,[]⟩,
 ⟨some 56,.move (.t 61),none,[]⟩]
def qeu:List VOper:=[
 ⟨some 62,.fieldAddr 2 (.t 5),none,[]⟩,
 ⟨some 63,.load false 1 (.t 62),none,[]⟩,
 ⟨some 64,.load true 3 (.t 7),none,[]⟩,
 ⟨some 65,.call false (.c (.fn 154 [])) [.t 63,.t 64],none,[]⟩,
 ⟨some 66,.fieldAddr 2 (.t 5),none,[]⟩,
 ⟨none,.store false 1 (.t 66) (.t 65),none,[]⟩]
def qhE:List VOper:=[
 ⟨some 8,.move (.c (.d (.int .i64 0))),none,[]⟩]
def qhD:List VOper:=[
 ⟨some 28,.move (.t 8),none,[]⟩,
 ⟨some 29,.fieldAddr 2 (.t 7),none,[]⟩,
 ⟨some 30,.load false 1 (.t 29),none,[]⟩,
 ⟨some 31,.len false (.t 30),none,[]⟩,
 ⟨some 32,.bin .lss (.t 28) (.t 31),none,[]⟩]
def quJ:List FOper:=[
 .one ⟨some 35,.fieldAddr 2 (.t 5),none,[]⟩,
 .one ⟨some 36,.load false 1 (.t 35),none,[0]⟩,
 .one ⟨some 37,.fieldAddr 2 (.t 7),none,[]⟩,
 .el 38 37 39 (.t 8) 40 3 41 [2] [] [3,4] [5],
 .one ⟨some 42,.call false (.c (.fn 154 [])) [.t 36,.t 41],none,[1,6]⟩,
 .one ⟨some 43,.fieldAddr 2 (.t 5),none,[0,1,2,3,4,5,6,7]⟩,
 .one ⟨none,.store false 1 (.t 43) (.t 42),none,[0,1,2,3,4,5,6,7,8]⟩]
def qhC:List VOper:=[
 ⟨some 33,.move (.t 8),none,[]⟩,
 ⟨some 34,.bin .add (.t 33) (.c (.d (.int .i64 1))),none,[]⟩,
 ⟨some 8,.move (.t 34),none,[]⟩]
def qqo:VCode:=(.seq (.seq (.region false 0 [0,3,4,5,6,7,8,32] qhD) (.cond (.t 32) .skip (.exit 3))) (.seq (.block 4 (.regionF true 0 [0,3,4,5,6,7,8] quJ)) (.region false 0 [0,3,4,5,6,7,8] qhC)))
def qhG:List VOper:=[
 ⟨some 19,.move (.t 6),none,[]⟩,
 ⟨some 20,.bin .add (.t 19) (.c (.d (.int .i64 1))),none,[]⟩,
 ⟨some 6,.move (.t 20),none,[]⟩]
def qhY:VCode:=(.seq (.seq (.region false 0 [0,3,4,5,6,18] qhH) (.cond (.t 18) .skip (.exit 0))) (.seq (.block 1 (.seq (.region false 1 [0,3,4,5,6,7] qhF) (.block 2 (.seq (.region false 0 [0,3,4,5,6,7,44] qex) (.cond (.t 44) (.region false 0 [0,3,4,5,6] qew) (.seq (.region false 0 [0,3,4,5,6,7,56] qev) (.cond (.t 56) (.region false 0 [0,3,4,5,6] qeu) (.seq (.region false 0 [0,3,4,5,6,7,8] qhE) (.block 3 (.loop [0,3,4,5,6,7,8] qqo)))))))))) (.region false 0 [0,3,4,5,6] qhG)))
def qdZ:List VOper:=[
 ⟨some 67,.load true 3 (.t 5),none,[]⟩,
 ⟨none,.store false 3 (.t 4) (.t 67),none,[]⟩]
def qDb:VFn:=⟨2,[.cell 4 true 3],(.seq (.region false 2 [0,3,4] qfN) (.seq (.region false 1 [0,3,4,5] qfM) (.seq (.seq (.region false 0 [0,3,4,5,6] qfL) (.block 0 (.loop [0,3,4,5,6] qhY))) (.seq (.region false 0 [4] qdZ) .ret))))⟩
def qmB:List VOper:=[
 ⟨some 3,.box 0 (.t 1),none,[]⟩,
 ⟨some 4,.move (.c (.d (.sl .nil []))),none,[]⟩]
def qmA:List VOper:=[
 ⟨some 5,.move (.c (.d (.int .i64 0))),none,[]⟩]
def quI:List VOper:=[
 ⟨some 7,.move (.t 5),none,[]⟩,
 ⟨some 8,.move (.t 0),none,[]⟩,
 ⟨some 9,.len false (.t 8),none,[1]⟩,
 ⟨some 10,.bin .lss (.t 7) (.t 9),none,[0,2]⟩,
 ⟨some 11,.move (.t 10),none,[3]⟩,
 ⟨some 12,.load true 3 (.t 3),some (11,true),[4]⟩,
 ⟨some 13,.move (.t 0),some (11,true),[4]⟩,
 ⟨some 14,.move (.t 5),some (11,true),[4]⟩,
 ⟨some 15,.indexAddr 3 none (.t 13) (.t 14),some (11,true),[4,6,7]⟩,
 ⟨some 16,.load true 3 (.t 15),some (11,true),[4,8]⟩,
 ⟨some 17,.call true (.c (.fn 84 [])) [.t 12,.t 16],some (11,true),[4,5,9]⟩,
 ⟨some 18,.not (.t 17),some (11,true),[4,10]⟩,
 ⟨some 19,.pick (.t 11) (.t 18) (.c (.d (.bool false))),none,[4,11]⟩]
def qpB:List VOper:=[
 ⟨some 20,.move (.t 5),none,[]⟩,
 ⟨some 21,.bin .add (.t 20) (.c (.d (.int .i64 1))),none,[]⟩,
 ⟨some 5,.move (.t 21),none,[]⟩]
def qkD:VCode:=(.seq (.seq (.region true 0 [0,3,5,19] quI) (.cond (.t 19) .skip (.exit 0))) (.block 1 (.region false 0 [0,3,5] qpB)))
def qmz:List FOper:=[
 .one ⟨some 22,.buildSlice 3 (.agg [.int .i64 0,.int .i64 0,.sl .nil []]) 0 [],none,[]⟩,
 .sl 23 0 24 (.t 5) 25 3 none (some (.t 24)) [] [] [],
 .one ⟨some 26,.append 3 40 (.t 22) (.t 25),none,[]⟩,
 .one ⟨some 6,.move (.t 26),none,[]⟩]
def qmy:List VOper:=[
 ⟨some 27,.move (.t 6),none,[]⟩,
 ⟨some 28,.load true 3 (.t 3),none,[]⟩,
 ⟨some 29,.buildSlice 3 (.agg [.int .i64 0,.int .i64 0,.sl .nil []]) 1 [(0,.t 28)],none,[]⟩,
 ⟨some 30,.append 3 40 (.t 27) (.t 29),none,[]⟩,
 ⟨some 6,.move (.t 30),none,[]⟩]
def qmx:List FOper:=[
 .one ⟨some 31,.move (.t 6),none,[]⟩,
 .sl 32 0 33 (.t 5) 34 3 (some (.t 33)) none [] [] [],
 .one ⟨some 35,.append 3 40 (.t 31) (.t 34),none,[]⟩,
 .one ⟨some 4,.move (.t 35),none,[]⟩]
def qDa:VFn:=⟨2,[.tmp 4],(.seq (.region false 1 [0,3] qmB) (.seq (.region false 0 [0,3,5] qmA) (.seq (.block 0 (.loop [0,3,5] qkD)) (.seq (.regionF false 0 [0,3,5,6] qmz) (.seq (.region false 0 [0,5,6] qmy) (.seq (.regionF false 0 [4] qmx) .ret))))))⟩
def qzM:List VOper:=[
 ⟨some 0,.move (.c (.d (.sl .nil []))),none,[]⟩]
def qzL:List VOper:=[
 ⟨some 1,.build [.str ⟨#[]⟩,.int .i64 0,.bool false] [(0,1,.c (.d (.str ⟨#[116,116]⟩)))],none,[]⟩,
 ⟨some 2,.build [.str ⟨#[]⟩,.int .i64 0,.bool false] [(0,1,.c (.d (.str ⟨#[97]⟩)))],none,[]⟩,
 ⟨some 3,.build [.str ⟨#[]⟩,.int .i64 0,.bool false] [(0,1,.c (.d (.str ⟨#[98]⟩)))],none,[]⟩,
 ⟨some 4,.build [.str ⟨#[]⟩,.int .i64 0,.bool false] [(0,1,.c (.d (.str ⟨#[103]⟩))),(1,1,.c (.d (.int .i64 1)))],none,[]⟩,
 ⟨some 5,.build [.str ⟨#[]⟩,.int .i64 0,.bool false] [(0,1,.c (.d (.str ⟨#[104]⟩))),(1,1,.c (.d (.int .i64 2)))],none,[]⟩,
 ⟨some 6,.build [.str ⟨#[]⟩,.int .i64 0,.bool false] [(0,1,.c (.d (.str ⟨#[102]⟩))),(1,1,.c (.d (.int .i64 2))),(2,1,.c (.d (.bool true)))],none,[]⟩,
 ⟨some 7,.build [.str ⟨#[]⟩,.int .i64 0,.bool false] [(0,1,.c (.d (.str ⟨#[107]⟩))),(1,1,.c (.d (.int .i64 2))),(2,1,.c (.d (.bool true)))],none,[]⟩,
 ⟨some 8,.buildSlice 3 (.agg [.str ⟨#[]⟩,.int .i64 0,.bool false]) 7 [(0,.t 1),(1,.t 2),(2,.t 3),(3,.t 4),(4,.t 5),(5,.t 6),(6,.t 7)],none,[]⟩,
 ⟨some 0,.move (.t 8),none,[]⟩]
def qC9:VFn:=⟨0,[.tmp 0],(.seq (.region false 0 [] qzM) (.seq (.region false 0 [0] qzL) .ret))⟩
def qmw:List VOper:=[
 ⟨some 2,.move (.c .nilp),none,[]⟩]
def qmv:List VOper:=[
 ⟨some 5,.move (.t 0),none,[]⟩,
 ⟨some 6,.len false (.t 5),none,[]⟩,
 ⟨some 7,.bin .add (.c (.d (.int .i64 27064))) (.t 6),none,[]⟩,
 ⟨some 3,.move (.t 7),none,[]⟩]
def qmu:List VOper:=[
 ⟨some 4,.move (.c (.d (.int .i64 0))),none,[]⟩]
def qpA:List VOper:=[
 ⟨some 8,.move (.t 4),none,[]⟩,
 ⟨some 9,.move (.t 0),none,[]⟩,
 ⟨some 10,.len false (.t 9),none,[]⟩,
 ⟨some 11,.bin .lss (.t 8) (.t 10),none,[]⟩,
 ⟨some 12,.move (.t 11),none,[]⟩,
 ⟨some 13,.move (.t 4),some (12,true),[]⟩,
 ⟨some 14,.bin .lss (.t 13) (.c (.d (.int .i64 4000))),some (12,true),[]⟩,
 ⟨some 15,.pick (.t 12) (.t 14) (.c (.d (.bool false))),none,[]⟩]
def qpy:List VOper:=[
 ⟨some 18,.move (.t 3),none,[]⟩,
 ⟨some 19,.bin .mul (.t 18) (.c (.d (.int .i64 131))),none,[]⟩,
 ⟨some 20,.move (.t 0),none,[]⟩,
 ⟨some 21,.move (.t 4),none,[]⟩,
 ⟨some 22,.indexAddr 1 none (.t 20) (.t 21),none,[]⟩,
 ⟨some 23,.load false 1 (.t 22),none,[]⟩,
 ⟨some 24,.conv (.kind .i64) (.t 23),none,[]⟩,
 ⟨some 25,.bin .add (.t 19) (.t 24),none,[]⟩,
 ⟨some 26,.bin .add (.t 25) (.c (.d (.int .i64 7))),none,[]⟩,
 ⟨some 27,.bin .and (.t 26) (.c (.d (.int .i64 1073741823))),none,[]⟩,
 ⟨some 3,.move (.t 27),none,[]⟩]
def qpz:List VOper:=[
 ⟨some 16,.move (.t 4),none,[]⟩,
 ⟨some 17,.bin .add (.t 16) (.c (.d (.int .i64 1))),none,[]⟩,
 ⟨some 4,.move (.t 17),none,[]⟩]
def qnp:VCode:=(.seq (.seq (.region false 0 [0,3,4,15] qpA) (.cond (.t 15) .skip (.exit 0))) (.seq (.block 1 (.region false 0 [0,3,4] qpy)) (.region false 0 [0,3,4] qpz)))
def qmt:List VOper:=[
 ⟨some 28,.move (.t 0),none,[]⟩,
 ⟨some 29,.move (.t 3),none,[]⟩,
 ⟨some 30,.build [.sl .nil [],.int .i64 0,.int .i64 0] [(0,1,.t 28),(2,1,.t 29)],none,[]⟩,
 ⟨some 31,.box 0 (.t 30),none,[]⟩,
 ⟨some 2,.move (.t 31),none,[]⟩]
def qC8:VFn:=⟨1,[.tmp 2],(.seq (.region false 0 [0] qmw) (.seq (.region false 0 [0,3] qmv) (.seq (.seq (.region false 0 [0,3,4] qmu) (.block 0 (.loop [0,3,4] qnp))) (.seq (.region false 1 [2] qmt) .ret))))⟩
def qzK:List VOper:=[
 ⟨some 4,.move (.c (.d (.int .i64 0))),none,[]⟩]
def qzJ:List VOper:=[
 ⟨some 9,.move (.t 1),none,[]⟩,
 ⟨some 10,.bin .leq (.t 9) (.c (.d (.int .i64 0))),none,[]⟩]
def qzI:List VOper:=[
 ⟨some 4,.move (.c (.d (.int .i64 0))),none,[]⟩]
def qzH:List VOper:=[
 ⟨some 11,.move (.t 1),none,[]⟩,
 ⟨some 12,.bin .leq (.t 11) (.c (.d (.int .i64 256))),none,[]⟩]
def qzG:List VOper:=[
 ⟨some 13,.move (.t 0),none,[]⟩,
 ⟨some 14,.call false (.c (.fn 165 [])) [.t 13],none,[]⟩,
 ⟨some 15,.move (.t 1),none,[]⟩,
 ⟨some 16,.bin .rem (.t 14) (.t 15),none,[]⟩,
 ⟨some 4,.move (.t 16),none,[]⟩]
def qzF:List VOper:=[
 ⟨some 17,.move (.t 0),none,[]⟩,
 ⟨some 18,.call false (.c (.fn 165 [])) [.t 17],none,[]⟩,
 ⟨some 5,.move (.t 18),none,[]⟩]
def qzE:List VOper:=[
 ⟨some 19,.move (.t 0),none,[]⟩,
 ⟨some 20,.call false (.c (.fn 165 [])) [.t 19],none,[]⟩,
 ⟨some 6,.move (.t 20),none,[]⟩]
def qzD:List VOper:=[
 ⟨some 21,.move (.t 0),none,[]⟩,
 ⟨some 22,.call false (.c (.fn 165 [])) [.t 21],none,[]⟩,
 ⟨some 7,.move (.t 22),none,[]⟩]
def qzC:List VOper:=[
 ⟨some 23,.move (.t 0),none,[]⟩,
 ⟨some 24,.call false (.c (.fn 165 [])) [.t 23],none,[]⟩,
 ⟨some 8,.move (.t 24),none,[]⟩]
def qzB:List VOper:=[
 ⟨some 25,.move (.t 5),none,[]⟩,
 ⟨some 26,.bin .mul (.t 25) (.c (.d (.int .i64 16777216))),none,[]⟩,
 ⟨some 27,.move (.t 6),none,[]⟩,
 ⟨some 28,.bin .mul (.t 27) (.c (.d (.int .i64 65536))),none,[]⟩,
 ⟨some 29,.bin .add (.t 26) (.t 28),none,[]⟩,
 ⟨some 30,.move (.t 7),none,[]⟩,
 ⟨some 31,.bin .mul (.t 30) (.c (.d (.int .i64 256))),none,[]⟩,
 ⟨some 32,.bin .add (.t 29) (.t 31),none,[]⟩,
 ⟨some 33,.move (.t 8),none,[]⟩,
 ⟨some 34,.bin .add (.t 32) (.t 33),none,[]⟩,
 ⟨some 35,.move (.t 1),none,[]⟩,
 ⟨some 36,.bin .rem (.t 34) (.t 35),none,[]⟩,
 ⟨some 4,.move (.t 36),none,[]⟩]
def qC7:VFn:=⟨2,[.tmp 4],(.seq (.region false 0 [0,1] qzK) (.seq (.seq (.region false 0 [0,1,10] qzJ) (.cond (.t 10) (.seq (.region false 0 [4] qzI) .ret) .skip)) (.seq (.seq (.region false 0 [0,1,12] qzH) (.cond (.t 12) (.seq (.region false 0 [4] qzG) .ret) .skip)) (.seq (.region false 0 [0,1,5] qzF) (.seq (.region false 0 [0,1,5,6] qzE) (.seq (.region false 0 [0,1,5,6,7] qzD) (.seq (.region false 0 [1,5,6,7,8] qzC) (.seq (.region false 0 [4] qzB) .ret))))))))⟩
def qzA:List VOper:=[
 ⟨some 4,.move (.c (.d (.int .i64 0))),none,[]⟩]
def qzz:List VOper:=[
 ⟨some 5,.move (.t 1),none,[]⟩,
 ⟨some 6,.move (.t 0),none,[]⟩,
 ⟨some 7,.move (.t 1),none,[]⟩,
 ⟨some 8,.len false (.t 7),none,[]⟩,
 ⟨some 9,.call false (.c (.fn 159 [])) [.t 6,.t 8],none,[]⟩,
 ⟨some 10,.indexAddr 1 none (.t 5) (.t 9),none,[]⟩,
 ⟨some 11,.load false 1 (.t 10),none,[]⟩,
 ⟨some 4,.move (.t 11),none,[]⟩]
def qC6:VFn:=⟨2,[.tmp 4],(.seq (.region false 0 [0,1] qzA) (.seq (.region false 0 [4] qzz) .ret))⟩
def quH:List VOper:=[
 ⟨some 2,.alloc 0 [.int .i64 0,.int .i64 0,.sl .nil []],none,[]⟩]
def quG:List VOper:=[
 ⟨some 6,.move (.t 0),none,[]⟩,
 ⟨some 7,.call false (.c (.fn 163 [])) [.t 6,.c (.d (.int .i64 3))],none,[]⟩,
 ⟨some 3,.alloc 3 [.int .i64 0,.int .i64 0,.sl .nil []],none,[]⟩,
 ⟨none,.store false 3 (.t 3) (.t 7),none,[]⟩]
def quF:List VOper:=[
 ⟨some 4,.move (.t 3),none,[]⟩]
def quE:List VOper:=[
 ⟨some 5,.move (.c (.d (.int .i64 0))),none,[]⟩]
def qkf:List VOper:=[
 ⟨some 8,.move (.t 5),none,[]⟩,
 ⟨some 9,.bin .lss (.t 8) (.c (.d (.int .i64 3))),none,[]⟩,
 ⟨some 10,.move (.t 9),none,[]⟩,
 ⟨some 11,.move (.t 4),some (10,true),[]⟩,
 ⟨some 12,.nilCheck (.t 11),some (10,true),[]⟩,
 ⟨some 13,.fieldAddr 2 (.t 12),some (10,true),[]⟩,
 ⟨some 14,.load false 1 (.t 13),some (10,true),[]⟩,
 ⟨some 15,.len false (.t 14),some (10,true),[]⟩,
 ⟨some 16,.bin .gtr (.t 15) (.c (.d (.int .i64 0))),some (10,true),[]⟩,
 ⟨some 17,.pick (.t 10) (.t 16) (.c (.d (.bool false))),none,[]⟩,
 ⟨some 18,.move (.t 17),none,[]⟩,
 ⟨some 19,.move (.t 0),some (18,true),[]⟩,
 ⟨some 20,.call false (.c (.fn 162 [])) [.t 19,.c (.d (.int .i64 2))],some (18,true),[]⟩,
 ⟨some 21,.not (.t 20),some (18,true),[]⟩,
 ⟨some 22,.pick (.t 18) (.t 21) (.c (.d (.bool false))),none,[]⟩]
def qms:List VOper:=[
 ⟨some 25,.move (.t 4),none,[]⟩,
 ⟨some 26,.nilCheck (.t 25),none,[0]⟩,
 ⟨some 27,.fieldAddr 2 (.t 26),none,[1]⟩,
 ⟨some 28,.loadS false 1 (.t 27) 0,none,[2]⟩,
 ⟨some 29,.move (.t 0),none,[]⟩,
 ⟨some 30,.move (.t 4),none,[]⟩,
 ⟨some 31,.nilCheck (.t 30),none,[5]⟩,
 ⟨some 32,.fieldAddr 2 (.t 31),none,[6]⟩,
 ⟨some 33,.load false 1 (.t 32),none,[7]⟩,
 ⟨some 34,.len false (.t 33),none,[8]⟩,
 ⟨some 35,.callS 0 (.c (.fn 159 [])) [.t 29,.t 34],none,[4,9]⟩,
 ⟨some 36,.indexAddr 3 none (.t 28) (.t 35),none,[3,10]⟩,
 ⟨some 4,.move (.t 36),none,[0,1,2,3,4,5,6,7,8,9,10,11]⟩]
def qpx:List VOper:=[
 ⟨some 23,.move (.t 5),none,[]⟩,
 ⟨some 24,.bin .add (.t 23) (.c (.d (.int .i64 1))),none,[]⟩,
 ⟨some 5,.move (.t 24),none,[]⟩]
def qjF:VCode:=(.seq (.seq (.region false 0 [0,2,3,4,5,22] qkf) (.cond (.t 22) .skip (.exit 0))) (.seq (.block 1 (.ghost (.focC 4 2 [0,2,3,4,5]) (.region true 0 [0,2,3,4,5] qms))) (.region false 0 [0,2,3,4,5] qpx)))
def qiO:List VOper:=[
 ⟨some 37,.move (.t 0),none,[]⟩,
 ⟨some 38,.call false (.c (.fn 159 [])) [.t 37,.c (.d (.int .i64 12))],none,[]⟩]
def qiN:List VOper:=[
 ⟨some 40,.bin .eql (.t 38) (.c (.d (.int .i64 0))),none,[]⟩,
 ⟨some 39,.move (.t 40),none,[]⟩]
def quD:List VOper:=[
 ⟨some 41,.move (.t 4),none,[]⟩,
 ⟨some 42,.move (.t 0),none,[]⟩,
 ⟨some 43,.buildSlice 1 (.int .i64 0) 5 [(0,.c (.d (.int .i64 (-2)))),(1,.c (.d (.int .i64 (-1)))),(2,.c (.d (.int .i64 0))),(3,.c (.d (.int .i64 5))),(4,.c (.d (.int .i64 7)))],none,[]⟩,
 ⟨some 44,.call false (.c (.fn 160 [])) [.t 42,.t 43],none,[]⟩,
 ⟨some 45,.nilCheck (.t 41),none,[]⟩,
 ⟨some 46,.fieldAddr 0 (.t 45),none,[]⟩,
 ⟨none,.store false 1 (.t 46) (.t 44),none,[]⟩]
def qg0:List VOper:=[
 ⟨some 48,.bin .eql (.t 38) (.c (.d (.int .i64 1))),none,[]⟩,
 ⟨some 47,.move (.t 48),none,[]⟩]
def qod:List VOper:=[
 ⟨some 49,.move (.t 4),none,[]⟩,
 ⟨some 50,.move (.t 0),none,[]⟩,
 ⟨some 51,.buildSlice 1 (.int .i64 0) 4 [(0,.c (.d (.int .i64 (-1)))),(1,.c (.d (.int .i64 1))),(2,.c (.d (.int .i64 99))),(3,.c (.d (.int .i64 100)))],none,[]⟩,
 ⟨some 52,.call false (.c (.fn 160 [])) [.t 50,.t 51],none,[]⟩,
 ⟨some 53,.nilCheck (.t 49),none,[]⟩,
 ⟨some 54,.fieldAddr 1 (.t 53),none,[]⟩,
 ⟨none,.store false 1 (.t 54) (.t 52),none,[]⟩]
def qiP:List VOper:=[
 ⟨some 56,.bin .eql (.t 38) (.c (.d (.int .i64 2))),none,[]⟩,
 ⟨some 55,.move (.t 56),none,[]⟩]
def qln:List VOper:=[
 ⟨some 57,.move (.t 4),none,[]⟩,
 ⟨some 58,.nilCheck (.t 57),none,[0]⟩,
 ⟨some 59,.fieldAddr 2 (.t 58),none,[1]⟩,
 ⟨some 60,.loadS false 1 (.t 59) 0,none,[2]⟩,
 ⟨some 61,.move (.t 0),none,[]⟩,
 ⟨some 62,.callS 0 (.c (.fn 166 [])) [.t 61,.c (.d (.int .i64 1)),.c (.d (.int .i64 2))],none,[4]⟩,
 ⟨some 63,.len false (.t 60),none,[3]⟩,
 ⟨some 64,.buildSlice 3 (.agg [.int .i64 0,.int .i64 0,.sl .nil []]) 1 [(0,.c (.d (.agg [.int .i64 0,.int .i64 0,.sl .nil []])))],none,[]⟩]
def qfK:List VOper:=[
 ⟨some 65,.append1 3 40 (.t 60) (.t 64) (.t 63) (.t 62) 66,none,[]⟩,
 ⟨some 67,.nilCheck (.t 57),none,[]⟩,
 ⟨some 68,.fieldAddr 2 (.t 67),none,[]⟩,
 ⟨none,.store false 1 (.t 68) (.t 65),none,[]⟩]
def qlm:List VOper:=[
 ⟨some 70,.bin .eql (.t 38) (.c (.d (.int .i64 3))),none,[]⟩,
 ⟨some 69,.move (.t 70),none,[]⟩]
def qoc:List VOper:=[
 ⟨some 71,.move (.t 0),none,[]⟩,
 ⟨some 72,.call false (.c (.fn 166 [])) [.t 71,.c (.d (.int .i64 3)),.c (.d (.int .i64 3))],none,[]⟩,
 ⟨none,.store false 3 (.t 2) (.t 72),none,[]⟩]
def qll:List VOper:=[
 ⟨some 73,.load true 3 (.t 3),none,[]⟩,
 ⟨none,.store false 3 (.t 2) (.t 73),none,[]⟩]
def qC5:VFn:=⟨1,[.cell 2 true 3],(.seq (.region false 1 [0,2] quH) (.seq (.region false 4 [0,2,3] quG) (.seq (.region false 0 [0,2,3,4] quF) (.seq (.seq (.region false 0 [0,2,3,4,5] quE) (.block 0 (.loop [0,2,3,4,5] qjF))) (.seq (.seq (.region false 0 [0,2,3,4,38] qiO) (.block 2 (.seq (.region false 0 [0,2,3,4,38,39] qiN) (.cond (.t 39) (.region false 0 [2,3] quD) (.seq (.region false 0 [0,2,3,4,38,47] qg0) (.cond (.t 47) (.region false 0 [2,3] qod) (.seq (.region false 0 [0,2,3,4,38,55] qiP) (.cond (.t 55) (.regionT 0 [2,3] qln qfK) (.seq (.region false 0 [0,2,3,69] qlm) (.cond (.t 69) (.seq (.region false 0 [2] qoc) .ret) .skip)))))))))) (.seq (.ghost (.frzB 3 2 [2]) (.region false 0 [2] qll)) .ret))))))⟩
def qzy:List VOper:=[
 ⟨some 4,.move (.c (.d (.bool false))),none,[]⟩]
def qzx:List VOper:=[
 ⟨some 5,.move (.t 0),none,[]⟩,
 ⟨some 6,.move (.t 1),none,[]⟩,
 ⟨some 7,.call false (.c (.fn 159 [])) [.t 5,.t 6],none,[]⟩,
 ⟨some 8,.bin .eql (.t 7) (.c (.d (.int .i64 0))),none,[]⟩,
 ⟨some 4,.move (.t 8),none,[]⟩]
def qC4:VFn:=⟨2,[.tmp 4],(.seq (.region false 0 [0,1] qzy) (.seq (.region false 0 [4] qzx) .ret))⟩
def qzw:List VOper:=[
 ⟨some 4,.alloc 0 [.int .i64 0,.int .i64 0,.sl .nil []],none,[]⟩]
def qzv:List VOper:=[
 ⟨some 5,.call true (.c (.fn 155 [])) [],none,[]⟩,
 ⟨some 6,.move (.t 0),none,[]⟩,
 ⟨some 7,.move (.t 1),none,[]⟩,
 ⟨some 8,.call false (.c (.fn 166 [])) [.t 6,.c (.d (.int .i64 2)),.t 7],none,[]⟩,
 ⟨some 9,.call true (.c (.fn 153 [])) [.t 5,.t 8],none,[]⟩,
 ⟨none,.store false 3 (.t 4) (.t 9),none,[]⟩]
def qC3:VFn:=⟨2,[.cell 4 true 3],(.seq (.region false 1 [0,1,4] qzw) (.seq (.region false 0 [4] qzv) .ret))⟩
def qzu:List VOper:=[
 ⟨some 4,.alloc 0 [.int .i64 0,.int .i64 0,.sl .nil []],none,[]⟩]
def qzt:List VOper:=[
 ⟨some 5,.move (.t 0),none,[]⟩,
 ⟨some 6,.move (.t 1),none,[]⟩,
 ⟨some 7,.build [.int .i64 0,.int .i64 0,.sl .nil []] [(0,1,.t 5),(2,1,.t 6)],none,[]⟩,
 ⟨none,.store false 3 (.t 4) (.t 7),none,[]⟩]
def v164:VFn:=⟨2,[.cell 4 true 3],(.seq (.region false 1 [0,1,4] qzu) (.seq (.region false 0 [4] qzt) .ret))⟩
def quC:List VOper:=[
 ⟨some 2,.move (.c (.d (.int .i64 0))),none,[]⟩]
def quB:List VOper:=[
 ⟨some 4,.move (.t 0),none,[]⟩,
 ⟨some 5,.move (.t 0),none,[]⟩,
 ⟨some 6,.nilCheck (.t 5),none,[]⟩,
 ⟨some 7,.fieldAddr 2 (.t 6),none,[]⟩,
 ⟨some 8,.load false 1 (.t 7),none,[]⟩,
 ⟨some 9,.bin .mul (.t 8) (.c (.d (.int .i64 6364136223846793005))),none,[]⟩,
 ⟨some 10,.bin .add (.t 9) (.c (.d (.int .i64 1442695040888963407))),none,[]⟩,
 ⟨some 11,.nilCheck (.t 4),none,[]⟩,
 ⟨some 12,.fieldAddr 2 (.t 11),none,[]⟩,
 ⟨none,.store false 1 (.t 12) (.t 10),none,[]⟩]
def quA:List VOper:=[
 ⟨some 13,.move (.t 0),none,[]⟩,
 ⟨some 14,.nilCheck (.t 13),none,[0]⟩,
 ⟨some 15,.fieldAddr 2 (.t 14),none,[1]⟩,
 ⟨some 16,.load false 1 (.t 15),none,[2]⟩,
 ⟨some 17,.bin .shr (.t 16) (.c (.d (.int .u64 33))),none,[3]⟩,
 ⟨some 18,.move (.t 0),none,[]⟩,
 ⟨some 19,.nilCheck (.t 18),none,[5]⟩,
 ⟨some 20,.fieldAddr 2 (.t 19),none,[6]⟩,
 ⟨some 21,.load false 1 (.t 20),none,[7]⟩,
 ⟨some 22,.bin .shr (.t 21) (.c (.d (.int .u64 45))),none,[8]⟩,
 ⟨some 23,.bin .xor (.t 17) (.t 22),none,[4,9]⟩,
 ⟨some 24,.bin .and (.t 23) (.c (.d (.int .i64 255))),none,[10]⟩,
 ⟨some 3,.move (.t 24),none,[0,1,2,3,4,5,6,7,8,9,10,11]⟩]
def quz:List VOper:=[
 ⟨some 25,.move (.t 0),none,[]⟩,
 ⟨some 26,.nilCheck (.t 25),none,[0]⟩,
 ⟨some 27,.fieldAddr 1 (.t 26),none,[1]⟩,
 ⟨some 28,.load false 1 (.t 27),none,[2]⟩,
 ⟨some 29,.move (.t 0),none,[]⟩,
 ⟨some 30,.nilCheck (.t 29),none,[4]⟩,
 ⟨some 31,.fieldAddr 0 (.t 30),none,[5]⟩,
 ⟨some 32,.load false 1 (.t 31),none,[6]⟩,
 ⟨some 33,.len false (.t 32),none,[7]⟩,
 ⟨some 34,.bin .lss (.t 28) (.t 33),none,[3,8]⟩]
def quy:List VOper:=[
 ⟨some 35,.move (.t 3),none,[]⟩,
 ⟨some 36,.move (.t 0),none,[]⟩,
 ⟨some 37,.nilCheck (.t 36),none,[1]⟩,
 ⟨some 38,.fieldAddr 0 (.t 37),none,[2]⟩,
 ⟨some 39,.load false 1 (.t 38),none,[3]⟩,
 ⟨some 40,.move (.t 0),none,[]⟩,
 ⟨some 41,.nilCheck (.t 40),none,[5]⟩,
 ⟨some 42,.fieldAddr 1 (.t 41),none,[6]⟩,
 ⟨some 43,.load false 1 (.t 42),none,[7]⟩,
 ⟨some 44,.indexAddr 1 none (.t 39) (.t 43),none,[4,8]⟩,
 ⟨some 45,.load false 1 (.t 44),none,[9]⟩,
 ⟨some 46,.conv (.kind .i64) (.t 45),none,[10]⟩,
 ⟨some 47,.bin .add (.t 35) (.t 46),none,[0,11]⟩,
 ⟨some 48,.bin .and (.t 47) (.c (.d (.int .i64 255))),none,[12]⟩,
 ⟨some 3,.move (.t 48),none,[0,1,2,3,4,5,6,7,8,9,10,11,12,13]⟩]
def qux:List VOper:=[
 ⟨some 49,.move (.t 0),none,[]⟩,
 ⟨some 50,.move (.t 0),none,[]⟩,
 ⟨some 51,.nilCheck (.t 50),none,[]⟩,
 ⟨some 52,.fieldAddr 1 (.t 51),none,[]⟩,
 ⟨some 53,.load false 1 (.t 52),none,[]⟩,
 ⟨some 54,.bin .add (.t 53) (.c (.d (.int .i64 1))),none,[]⟩,
 ⟨some 55,.nilCheck (.t 49),none,[]⟩,
 ⟨some 56,.fieldAddr 1 (.t 55),none,[]⟩,
 ⟨none,.store false 1 (.t 56) (.t 54),none,[]⟩]
def quw:List VOper:=[
 ⟨some 57,.move (.t 3),none,[]⟩,
 ⟨some 2,.move (.t 57),none,[]⟩]
def qBj:VFn:=⟨1,[.tmp 2],(.seq (.region false 0 [0] quC) (.seq (.region false 0 [0] quB) (.seq (.region true 0 [0,3] quA) (.seq (.seq (.region true 0 [0,3,34] quz) (.cond (.t 34) (.seq (.region true 0 [0,3] quy) (.region false 0 [3] qux)) .skip)) (.seq (.region false 0 [2] quw) .ret)))))⟩
def quv:List VOper:=[
 ⟨some 6,.alloc 0 [.int .i64 0,.int .i64 0,.sl .nil []],none,[]⟩]
def qke:List VOper:=[
 ⟨some 9,.move (.t 1),none,[]⟩,
 ⟨some 10,.bin .eql (.t 9) (.c (.d (.int .i64 0))),none,[]⟩,
 ⟨some 11,.move (.t 10),none,[]⟩,
 ⟨some 12,.move (.t 0),some (11,false),[]⟩,
 ⟨some 13,.call false (.c (.fn 162 [])) [.t 12,.c (.d (.int .i64 3))],some (11,false),[]⟩,
 ⟨some 14,.pick (.t 11) (.c (.d (.bool true))) (.t 13),none,[]⟩]
def qmr:List VOper:=[
 ⟨some 15,.move (.t 2),none,[]⟩,
 ⟨some 16,.bin .gtr (.t 15) (.c (.d (.int .i64 0))),none,[]⟩,
 ⟨some 17,.move (.t 16),none,[]⟩,
 ⟨some 18,.move (.t 0),some (17,true),[]⟩,
 ⟨some 19,.call false (.c (.fn 162 [])) [.t 18,.c (.d (.int .i64 2))],some (17,true),[]⟩,
 ⟨some 20,.pick (.t 17) (.t 19) (.c (.d (.bool false))),none,[]⟩]
def quu:List VOper:=[
 ⟨some 21,.move (.t 0),none,[]⟩,
 ⟨some 22,.move (.t 2),none,[]⟩,
 ⟨some 23,.call false (.c (.fn 159 [])) [.t 21,.t 22],none,[]⟩,
 ⟨some 24,.call true (.c (.fn 147 [])) [.t 23],none,[]⟩,
 ⟨none,.store false 3 (.t 6) (.t 24),none,[]⟩]
def qpw:List VOper:=[
 ⟨some 25,.move (.t 0),none,[]⟩,
 ⟨some 26,.call false (.c (.fn 159 [])) [.t 25,.c (.d (.int .i64 2))],none,[]⟩,
 ⟨some 27,.bin .add (.c (.d (.int .i64 1))) (.t 26),none,[]⟩,
 ⟨some 28,.build [.int .i64 0,.int .i64 0,.sl .nil []] [(0,1,.t 27)],none,[]⟩,
 ⟨none,.store false 3 (.t 6) (.t 28),none,[]⟩]
def qpv:List VOper:=[
 ⟨some 29,.move (.t 0),none,[]⟩,
 ⟨some 30,.buildSlice 1 (.int .i64 0) 5 [(0,.c (.d (.int .i64 3))),(1,.c (.d (.int .i64 4))),(2,.c (.d (.int .i64 5))),(3,.c (.d (.int .i64 5))),(4,.c (.d (.int .i64 6)))],none,[]⟩,
 ⟨some 31,.call false (.c (.fn 160 [])) [.t 29,.t 30],none,[]⟩,
 ⟨some 7,.move (.t 31),none,[]⟩]
def qpu:List VOper:=[
 ⟨some 32,.move (.t 0),none,[]⟩,
 ⟨some 33,.move (.t 1),none,[]⟩,
 ⟨some 34,.bin .sub (.t 33) (.c (.d (.int .i64 1))),none,[]⟩,
 ⟨some 35,.move (.t 2),none,[]⟩,
 ⟨some 36,.call false (.c (.fn 166 [])) [.t 32,.t 34,.t 35],none,[]⟩,
 ⟨some 37,.buildSlice 3 (.agg [.int .i64 0,.int .i64 0,.sl .nil []]) 1 [(0,.t 36)],none,[]⟩,
 ⟨some 8,.move (.t 37),none,[]⟩]
def qpt:List VOper:=[
 ⟨some 38,.move (.t 7),none,[]⟩,
 ⟨some 39,.bin .gtr (.t 38) (.c (.d (.int .i64 3))),none,[]⟩]
def qps:List VOper:=[
 ⟨some 40,.move (.t 8),none,[]⟩,
 ⟨some 41,.move (.t 0),none,[]⟩,
 ⟨some 42,.move (.t 1),none,[]⟩,
 ⟨some 43,.bin .sub (.t 42) (.c (.d (.int .i64 1))),none,[]⟩,
 ⟨some 44,.move (.t 2),none,[]⟩,
 ⟨some 45,.call false (.c (.fn 166 [])) [.t 41,.t 43,.t 44],none,[]⟩,
 ⟨some 46,.buildSlice 3 (.agg [.int .i64 0,.int .i64 0,.sl .nil []]) 1 [(0,.t 45)],none,[]⟩,
 ⟨some 47,.append 3 40 (.t 40) (.t 46),none,[]⟩,
 ⟨some 8,.move (.t 47),none,[]⟩]
def qpr:List VOper:=[
 ⟨some 48,.move (.t 7),none,[]⟩,
 ⟨some 49,.move (.t 8),none,[]⟩,
 ⟨some 50,.call true (.c (.fn 164 [])) [.t 48,.t 49],none,[]⟩,
 ⟨none,.store false 3 (.t 6) (.t 50),none,[]⟩]
def qC2:VFn:=⟨3,[.cell 6 true 3],(.seq (.region false 1 [0,1,2,6] quv) (.seq (.seq (.region false 0 [0,1,2,6,14] qke) (.cond (.t 14) (.seq (.seq (.region false 0 [0,2,6,20] qmr) (.cond (.t 20) (.seq (.region false 0 [6] quu) .ret) .skip)) (.seq (.region false 0 [6] qpw) .ret)) .skip)) (.seq (.region false 0 [0,1,2,6,7] qpv) (.seq (.region false 0 [0,1,2,6,7,8] qpu) (.seq (.seq (.region false 0 [0,1,2,6,7,8,39] qpt) (.cond (.t 39) (.region false 0 [6,7,8] qps) .skip)) (.seq (.region false 0 [6] qpr) .ret))))))⟩
def qzs:List VOper:=[
 ⟨some 2,.move (.c (.d (.sl .nil []))),none,[]⟩,
 ⟨some 3,.alloc 0 [.int .i64 0,.int .i64 0,.sl .nil []],none,[]⟩,
 ⟨some 4,.alloc 1 [.int .i64 0,.int .i64 0,.sl .nil []],none,[]⟩]
def qzr:List VOper:=[
 ⟨some 9,.move (.t 0),none,[]⟩,
 ⟨some 10,.call true (.c (.fn 180 [])) [.t 9],none,[]⟩,
 ⟨some 8,.move (.t 10),none,[]⟩,
 ⟨some 11,.extract (.t 8) 0,none,[]⟩,
 ⟨some 12,.extract (.t 8) 1,none,[]⟩,
 ⟨some 13,.extract (.t 8) 2,none,[]⟩,
 ⟨some 6,.alloc 0 [.int .i64 0,.int .i64 0,.sl .nil []],none,[]⟩,
 ⟨some 7,.alloc 1 [.int .i64 0,.int .i64 0,.sl .nil []],none,[]⟩,
 ⟨some 5,.move (.t 11),none,[]⟩,
 ⟨none,.store false 3 (.t 6) (.t 12),none,[]⟩,
 ⟨none,.store false 3 (.t 7) (.t 13),none,[]⟩]
def qut:List VOper:=[
 ⟨some 14,.move (.t 5),none,[]⟩,
 ⟨some 15,.load true 3 (.t 6),none,[]⟩,
 ⟨some 16,.load true 3 (.t 7),none,[]⟩,
 ⟨some 2,.move (.t 14),none,[0]⟩,
 ⟨none,.storeN 3 (.t 3) (.t 15) [7],none,[0,1,3]⟩,
 ⟨none,.store false 3 (.t 4) (.t 16),none,[0,1,2,3,4]⟩]
def qC1:VFn:=⟨1,[.tmp 2,.cell 3 true 3,.cell 4 true 3],(.seq (.region false 2 [0,3,4] qzs) (.seq (.region false 2 [3,4,5,6,7] qzr) (.seq (.region true 0 [2,3,4] qut) .ret)))⟩
def qhB:List VOper:=[
 ⟨some 4,.box 0 (.t 1),none,[]⟩,
 ⟨some 5,.box 1 (.t 2),none,[]⟩,
 ⟨some 6,.move (.c (.d (.bool false))),none,[]⟩]
def qhA:List VOper:=[
 ⟨some 11,.move (.t 0),none,[]⟩,
 ⟨some 12,.load true 3 (.t 4),none,[]⟩,
 ⟨some 13,.call true (.c (.fn 70 [])) [.t 11,.t 12],none,[]⟩,
 ⟨some 14,.not (.t 13),none,[]⟩,
 ⟨some 15,.move (.t 14),none,[]⟩,
 ⟨some 16,.move (.t 0),some (15,false),[]⟩,
 ⟨some 17,.load true 3 (.t 5),some (15,false),[]⟩,
 ⟨some 18,.call true (.c (.fn 70 [])) [.t 16,.t 17],some (15,false),[]⟩,
 ⟨some 19,.not (.t 18),some (15,false),[]⟩,
 ⟨some 20,.pick (.t 15) (.c (.d (.bool true))) (.t 19),none,[]⟩]
def qhz:List VOper:=[
 ⟨some 6,.move (.c (.d (.bool false))),none,[]⟩]
def qkd:List VOper:=[
 ⟨some 21,.load true 3 (.t 5),none,[]⟩,
 ⟨some 22,.call true (.c (.fn 104 [])) [.t 21],none,[]⟩,
 ⟨some 23,.len false (.t 22),none,[]⟩,
 ⟨some 24,.move (.c (.d (.int .i64 0))),none,[]⟩]
def qpq:List VOper:=[
 ⟨some 25,.bin .lss (.t 24) (.t 23),none,[]⟩]
def qpp:List VOper:=[
 ⟨some 26,.indexAddr 1 none (.t 22) (.t 24),none,[]⟩,
 ⟨some 27,.load false 1 (.t 26),none,[]⟩,
 ⟨some 8,.move (.t 27),none,[]⟩]
def qus:List VOper:=[
 ⟨some 28,.load true 3 (.t 4),none,[]⟩,
 ⟨some 29,.move (.t 8),none,[]⟩,
 ⟨some 30,.call true (.c (.fn 73 [])) [.t 28,.t 29],none,[0,1]⟩,
 ⟨some 31,.load true 3 (.t 5),none,[]⟩,
 ⟨some 32,.move (.t 8),none,[]⟩,
 ⟨some 33,.call true (.c (.fn 73 [])) [.t 31,.t 32],none,[2,3,4]⟩,
 ⟨some 34,.bin .lss (.t 30) (.t 33),none,[2,5]⟩]
def qpo:List VOper:=[
 ⟨some 6,.move (.c (.d (.bool false))),none,[]⟩]
def qpn:List VOper:=[
 ⟨some 35,.bin .add (.t 24) (.c (.d (.int .i64 1))),none,[]⟩,
 ⟨some 24,.move (.t 35),none,[]⟩]
def qkC:VCode:=(.seq (.region false 0 [0,4,5,22,23,24,25] qpq) (.seq (.cond (.t 25) .skip (.exit 0)) (.seq (.block 1 (.seq (.region false 0 [0,4,5,8,22,23,24] qpp) (.seq (.region true 0 [0,4,5,22,23,24,34] qus) (.cond (.t 34) (.seq (.region false 0 [6] qpo) .ret) .skip)))) (.region false 0 [0,4,5,22,23,24] qpn))))
def qur:List VOper:=[
 ⟨some 36,.move (.t 0),none,[]⟩,
 ⟨some 37,.load true 3 (.t 4),none,[]⟩,
 ⟨some 38,.call true (.c (.fn 118 [])) [.t 36,.t 37],none,[0,1]⟩,
 ⟨some 39,.move (.t 0),none,[]⟩,
 ⟨some 40,.load true 3 (.t 5),none,[]⟩,
 ⟨some 41,.call true (.c (.fn 118 [])) [.t 39,.t 40],none,[2,3,4]⟩,
 ⟨some 9,.move (.t 38),none,[0,1,2,5]⟩,
 ⟨some 10,.move (.t 41),none,[0,1,2,3,4,5,6]⟩]
def qet:List VOper:=[
 ⟨some 42,.move (.t 9),none,[]⟩,
 ⟨some 43,.move (.t 10),none,[]⟩,
 ⟨some 44,.bin .gtr (.t 42) (.t 43),none,[]⟩,
 ⟨some 45,.move (.t 44),none,[]⟩,
 ⟨some 46,.move (.t 9),some (45,false),[]⟩,
 ⟨some 47,.move (.t 10),some (45,false),[]⟩,
 ⟨some 48,.bin .eql (.t 46) (.t 47),some (45,false),[]⟩,
 ⟨some 49,.move (.t 48),some (45,false),[]⟩,
 ⟨some 50,.load true 3 (.t 4),some (49,true),[]⟩,
 ⟨some 51,.call true (.c (.fn 103 [])) [.t 50],some (49,true),[]⟩,
 ⟨some 52,.pick (.t 49) (.t 51) (.c (.d (.bool false))),some (45,false),[]⟩,
 ⟨some 53,.move (.t 52),some (45,false),[]⟩,
 ⟨some 54,.load true 3 (.t 5),some (53,true),[]⟩,
 ⟨some 55,.call true (.c (.fn 103 [])) [.t 54],some (53,true),[]⟩,
 ⟨some 56,.pick (.t 53) (.t 55) (.c (.d (.bool false))),some (45,false),[]⟩,
 ⟨some 57,.move (.t 56),some (45,false),[]⟩,
 ⟨some 58,.load true 3 (.t 5),some (57,true),[]⟩,
 ⟨some 59,.load true 3 (.t 4),some (57,true),[]⟩,
 ⟨some 60,.call true (.c (.fn 79 [])) [.t 58,.t 59],some (57,true),[]⟩,
 ⟨some 61,.pick (.t 57) (.t 60) (.c (.d (.bool false))),some (45,false),[]⟩,
 ⟨some 62,.pick (.t 45) (.c (.d (.bool true))) (.t 61),none,[]⟩,
 ⟨some 6,.move (.t 62),none,[]⟩]
def qxR:VFn:=⟨3,[.tmp 6],(.seq (.region false 2 [0,4,5] qhB) (.seq (.seq (.region false 0 [0,4,5,20] qhA) (.cond (.t 20) (.seq (.region false 0 [6] qhz) .ret) .skip)) (.seq (.seq (.region false 0 [0,4,5,22,23,24] qkd) (.block 0 (.loop [0,4,5,22,23,24] qkC))) (.seq (.region true 0 [4,5,9,10] qur) (.seq (.region false 0 [6] qet) .ret)))))⟩
def qhy:List VOper:=[
 ⟨some 4,.box 0 (.t 1),none,[]⟩,
 ⟨some 5,.box 1 (.t 2),none,[]⟩,
 ⟨some 6,.move (.c (.d (.bool false))),none,[]⟩]
def qhx:List VOper:=[
 ⟨some 11,.move (.t 0),none,[]⟩,
 ⟨some 12,.load true 3 (.t 4),none,[]⟩,
 ⟨some 13,.call true (.c (.fn 80 [])) [.t 11,.t 12],none,[]⟩,
 ⟨some 14,.not (.t 13),none,[]⟩,
 ⟨some 15,.move (.t 14),none,[]⟩,
 ⟨some 16,.move (.t 0),some (15,false),[]⟩,
 ⟨some 17,.load true 3 (.t 5),some (15,false),[]⟩,
 ⟨some 18,.call true (.c (.fn 80 [])) [.t 16,.t 17],some (15,false),[]⟩,
 ⟨some 19,.not (.t 18),some (15,false),[]⟩,
 ⟨some 20,.pick (.t 15) (.c (.d (.bool true))) (.t 19),none,[]⟩]
def qhw:List VOper:=[
 ⟨some 6,.move (.c (.d (.bool false))),none,[]⟩]
def qkc:List VOper:=[
 ⟨some 21,.load true 3 (.t 5),none,[]⟩,
 ⟨some 22,.call true (.c (.fn 110 [])) [.t 21],none,[]⟩,
 ⟨some 7,.move (.t 22),none,[]⟩]
def qkb:List VOper:=[
 ⟨some 8,.move (.c (.d (.int .i64 0))),none,[]⟩]
def qpm:List VOper:=[
 ⟨some 23,.move (.t 8),none,[]⟩,
 ⟨some 24,.move (.t 7),none,[]⟩,
 ⟨some 25,.len false (.t 24),none,[]⟩,
 ⟨some 26,.bin .lss (.t 23) (.t 25),none,[]⟩]
def quq:List VOper:=[
 ⟨some 29,.load true 3 (.t 4),none,[]⟩,
 ⟨some 30,.move (.t 7),none,[]⟩,
 ⟨some 31,.move (.t 8),none,[]⟩,
 ⟨some 32,.indexAddr 1 none (.t 30) (.t 31),none,[1,2]⟩,
 ⟨some 33,.load false 1 (.t 32),none,[3]⟩,
 ⟨some 34,.call true (.c (.fn 81 [])) [.t 29,.t 33],none,[0,4]⟩,
 ⟨some 35,.load true 3 (.t 5),none,[]⟩,
 ⟨some 36,.move (.t 7),none,[]⟩,
 ⟨some 37,.move (.t 8),none,[]⟩,
 ⟨some 38,.indexAddr 1 none (.t 36) (.t 37),none,[7,8]⟩,
 ⟨some 39,.load false 1 (.t 38),none,[9]⟩,
 ⟨some 40,.call true (.c (.fn 81 [])) [.t 35,.t 39],none,[5,6,10]⟩,
 ⟨some 41,.bin .lss (.t 34) (.t 40),none,[5,11]⟩]
def qpk:List VOper:=[
 ⟨some 6,.move (.c (.d (.bool false))),none,[]⟩]
def qpl:List VOper:=[
 ⟨some 27,.move (.t 8),none,[]⟩,
 ⟨some 28,.bin .add (.t 27) (.c (.d (.int .i64 1))),none,[]⟩,
 ⟨some 8,.move (.t 28),none,[]⟩]
def qkB:VCode:=(.seq (.seq (.region false 0 [0,4,5,7,8,26] qpm) (.cond (.t 26) .skip (.exit 0))) (.seq (.block 1 (.seq (.region true 0 [0,4,5,7,8,41] quq) (.cond (.t 41) (.seq (.region false 0 [6] qpk) .ret) .skip))) (.region false 0 [0,4,5,7,8] qpl)))
def qup:List VOper:=[
 ⟨some 42,.move (.t 0),none,[]⟩,
 ⟨some 43,.load true 3 (.t 4),none,[]⟩,
 ⟨some 44,.call true (.c (.fn 117 [])) [.t 42,.t 43],none,[0,1]⟩,
 ⟨some 45,.move (.t 0),none,[]⟩,
 ⟨some 46,.load true 3 (.t 5),none,[]⟩,
 ⟨some 47,.call true (.c (.fn 117 [])) [.t 45,.t 46],none,[2,3,4]⟩,
 ⟨some 9,.move (.t 44),none,[0,1,2,5]⟩,
 ⟨some 10,.move (.t 47),none,[0,1,2,3,4,5,6]⟩]
def qes:List VOper:=[
 ⟨some 48,.move (.t 9),none,[]⟩,
 ⟨some 49,.move (.t 10),none,[]⟩,
 ⟨some 50,.bin .gtr (.t 48) (.t 49),none,[]⟩,
 ⟨some 51,.move (.t 50),none,[]⟩,
 ⟨some 52,.move (.t 9),some (51,false),[]⟩,
 ⟨some 53,.move (.t 10),some (51,false),[]⟩,
 ⟨some 54,.bin .eql (.t 52) (.t 53),some (51,false),[]⟩,
 ⟨some 55,.move (.t 54),some (51,false),[]⟩,
 ⟨some 56,.load true 3 (.t 4),some (55,true),[]⟩,
 ⟨some 57,.call true (.c (.fn 102 [])) [.t 56],some (55,true),[]⟩,
 ⟨some 58,.pick (.t 55) (.t 57) (.c (.d (.bool false))),some (51,false),[]⟩,
 ⟨some 59,.move (.t 58),some (51,false),[]⟩,
 ⟨some 60,.load true 3 (.t 5),some (59,true),[]⟩,
 ⟨some 61,.call true (.c (.fn 102 [])) [.t 60],some (59,true),[]⟩,
 ⟨some 62,.pick (.t 59) (.t 61) (.c (.d (.bool false))),some (51,false),[]⟩,
 ⟨some 63,.move (.t 62),some (51,false),[]⟩,
 ⟨some 64,.load true 3 (.t 5),some (63,true),[]⟩,
 ⟨some 65,.load true 3 (.t 4),some (63,true),[]⟩,
 ⟨some 66,.call true (.c (.fn 84 [])) [.t 64,.t 65],some (63,true),[]⟩,
 ⟨some 67,.pick (.t 63) (.t 66) (.c (.d (.bool false))),some (51,false),[]⟩,
 ⟨some 68,.pick (.t 51) (.c (.d (.bool true))) (.t 67),none,[]⟩,
 ⟨some 6,.move (.t 68),none,[]⟩]
def qxQ:VFn:=⟨3,[.tmp 6],(.seq (.region false 2 [0,4,5] qhy) (.seq (.seq (.region false 0 [0,4,5,20] qhx) (.cond (.t 20) (.seq (.region false 0 [6] qhw) .ret) .skip)) (.seq (.region false 0 [0,4,5,7] qkc) (.seq (.seq (.region false 0 [0,4,5,7,8] qkb) (.block 0 (.loop [0,4,5,7,8] qkB))) (.seq (.region true 0 [4,5,9,10] qup) (.seq (.region false 0 [6] qes) .ret))))))⟩
def qpj:List VOper:=[
 ⟨some 2,.move (.c (.d (.sl .nil []))),none,[]⟩,
 ⟨some 3,.alloc 0 [.int .i64 0,.int .i64 0,.sl .nil []],none,[]⟩,
 ⟨some 4,.alloc 1 [.int .i64 0,.int .i64 0,.sl .nil []],none,[]⟩]
def qpi:List VOper:=[
 ⟨some 9,.move (.t 0),none,[]⟩,
 ⟨some 10,.call false (.c (.fn 156 [])) [.t 9],none,[]⟩,
 ⟨some 5,.move (.t 10),none,[]⟩]
def qph:List VOper:=[
 ⟨some 11,.move (.t 5),none,[]⟩,
 ⟨some 12,.call false (.c (.fn 159 [])) [.t 11,.c (.d (.int .i64 3))],none,[]⟩,
 ⟨some 6,.move (.t 12),none,[]⟩]
def qpg:List VOper:=[
 ⟨some 13,.move (.t 5),none,[]⟩,
 ⟨some 14,.move (.t 6),none,[]⟩,
 ⟨some 15,.call false (.c (.fn 163 [])) [.t 13,.t 14],none,[]⟩,
 ⟨some 7,.alloc 0 [.int .i64 0,.int .i64 0,.sl .nil []],none,[]⟩,
 ⟨none,.store false 3 (.t 7) (.t 15),none,[]⟩]
def qpf:List VOper:=[
 ⟨some 16,.move (.t 5),none,[]⟩,
 ⟨some 17,.move (.t 6),none,[]⟩,
 ⟨some 18,.call false (.c (.fn 163 [])) [.t 16,.t 17],none,[]⟩,
 ⟨some 8,.alloc 0 [.int .i64 0,.int .i64 0,.sl .nil []],none,[]⟩,
 ⟨none,.store false 3 (.t 8) (.t 18),none,[]⟩]
def qpe:List VOper:=[
 ⟨some 19,.move (.t 5),none,[]⟩,
 ⟨some 20,.call false (.c (.fn 159 [])) [.t 19,.c (.d (.int .i64 8))],none,[]⟩]
def qpd:List VOper:=[
 ⟨some 22,.bin .eql (.t 20) (.c (.d (.int .i64 0))),none,[]⟩,
 ⟨some 21,.move (.t 22),none,[]⟩]
def qpc:List VOper:=[
 ⟨some 23,.move (.t 5),none,[]⟩,
 ⟨some 24,.callS 23 (.c (.fn 161 [])) [.t 23],none,[]⟩,
 ⟨none,.store false 3 (.t 8) (.t 24),none,[]⟩]
def qpb:List VOper:=[
 ⟨some 26,.bin .eql (.t 20) (.c (.d (.int .i64 1))),none,[]⟩,
 ⟨some 25,.move (.t 26),none,[]⟩]
def qpa:List VOper:=[
 ⟨some 27,.load true 3 (.t 7),none,[]⟩,
 ⟨some 28,.call true (.c (.fn 146 [])) [.t 27],none,[]⟩,
 ⟨none,.store false 3 (.t 8) (.t 28),none,[]⟩]
def qob:List VOper:=[
 ⟨some 29,.call true (.c (.fn 155 [])) [],none,[]⟩,
 ⟨some 30,.load true 3 (.t 7),none,[]⟩,
 ⟨some 31,.load true 3 (.t 8),none,[]⟩,
 ⟨some 2,.move (.t 29),none,[0]⟩,
 ⟨none,.storeN 3 (.t 3) (.t 30) [8],none,[0,1,3]⟩,
 ⟨none,.store false 3 (.t 4) (.t 31),none,[0,1,2,3,4]⟩]
def qw0:VFn:=⟨1,[.tmp 2,.cell 3 true 3,.cell 4 true 3],(.seq (.region false 2 [0,3,4] qpj) (.seq (.region false 0 [3,4,5] qpi) (.seq (.region false 0 [3,4,5,6] qph) (.seq (.region false 1 [3,4,5,6,7] qpg) (.seq (.region false 1 [3,4,5,7,8] qpf) (.seq (.seq (.region false 0 [3,4,5,7,8,20] qpe) (.block 0 (.seq (.region false 0 [3,4,5,7,8,20,21] qpd) (.cond (.t 21) (.region false 0 [3,4,7,8] qpc) (.seq (.region false 0 [3,4,7,8,25] qpb) (.cond (.t 25) (.region false 0 [3,4,7,8] qpa) .skip)))))) (.seq (.region true 0 [2,3,4] qob) .ret)))))))⟩
def qum:List VOper:=[
 ⟨some 4,.box 0 (.t 1),none,[]⟩,
 ⟨some 5,.box 1 (.t 2),none,[]⟩,
 ⟨some 6,.alloc 2 [.int .i64 0,.int .i64 0,.sl .nil []],none,[]⟩,
 ⟨some 7,.alloc 3 [.int .i64 0,.int .i64 0,.sl .nil []],none,[]⟩,
 ⟨some 8,.move (.c (.d (.bool false))),none,[]⟩]
def qul:List VOper:=[
 ⟨some 9,.move (.t 0),none,[]⟩,
 ⟨some 10,.load true 3 (.t 5),none,[]⟩,
 ⟨some 11,.load true 3 (.t 4),none,[]⟩,
 ⟨some 12,.call true (.c (.fn 179 [])) [.t 9,.t 10,.t 11],none,[]⟩]
def quk:List VOper:=[
 ⟨some 13,.load true 3 (.t 5),none,[]⟩,
 ⟨some 14,.call true (.c (.fn 146 [])) [.t 13],none,[0]⟩,
 ⟨some 15,.load true 3 (.t 4),none,[]⟩,
 ⟨some 16,.call true (.c (.fn 146 [])) [.t 15],none,[1,2]⟩,
 ⟨none,.store false 3 (.t 6) (.t 14),none,[0,1,3]⟩,
 ⟨none,.store false 3 (.t 7) (.t 16),none,[0,1,2,3,4]⟩,
 ⟨some 8,.move (.c (.d (.bool true))),none,[0,1,2,3,4,5]⟩]
def quj:List VOper:=[
 ⟨some 17,.load true 3 (.t 4),none,[]⟩,
 ⟨some 18,.call true (.c (.fn 146 [])) [.t 17],none,[0]⟩,
 ⟨some 19,.load true 3 (.t 5),none,[]⟩,
 ⟨some 20,.call true (.c (.fn 146 [])) [.t 19],none,[1,2]⟩,
 ⟨some 21,.move (.t 0),none,[]⟩,
 ⟨some 22,.load true 3 (.t 4),none,[]⟩,
 ⟨some 23,.load true 3 (.t 5),none,[]⟩,
 ⟨some 24,.call true (.c (.fn 179 [])) [.t 21,.t 22,.t 23],none,[3,4,5,6]⟩,
 ⟨none,.store false 3 (.t 6) (.t 18),none,[0,1,7]⟩,
 ⟨none,.store false 3 (.t 7) (.t 20),none,[0,1,2,3,8]⟩,
 ⟨some 8,.move (.t 24),none,[0,1,2,3,4,5,6,7,8,9]⟩]
def qBh:VFn:=⟨3,[.cell 6 true 3,.cell 7 true 3,.tmp 8],(.seq (.region false 4 [0,4,5,6,7] qum) (.seq (.seq (.region false 0 [0,4,5,6,7,12] qul) (.cond (.t 12) (.seq (.region true 0 [6,7,8] quk) .ret) .skip)) (.seq (.region true 0 [6,7,8] quj) .ret)))⟩
def qo9:List VOper:=[
 ⟨some 4,.box 0 (.t 1),none,[]⟩,
 ⟨some 5,.box 1 (.t 2),none,[]⟩,
 ⟨some 6,.alloc 2 [.int .i64 0,.int .i64 0,.sl .nil []],none,[]⟩,
 ⟨some 7,.alloc 3 [.int .i64 0,.int .i64 0,.sl .nil []],none,[]⟩,
 ⟨some 8,.move (.c (.d (.bool false))),none,[]⟩]
def qui:List VOper:=[
 ⟨some 11,.load true 3 (.t 4),none,[]⟩,
 ⟨some 12,.call true (.c (.fn 150 [])) [.t 11],none,[0]⟩,
 ⟨some 13,.load true 3 (.t 5),none,[]⟩,
 ⟨some 14,.call true (.c (.fn 150 [])) [.t 13],none,[1,2]⟩,
 ⟨some 9,.alloc 0 [.int .i64 0,.int .i64 0,.sl .nil []],none,[]⟩,
 ⟨some 10,.alloc 1 [.int .i64 0,.int .i64 0,.sl .nil []],none,[]⟩,
 ⟨none,.store true 3 (.t 9) (.t 12),none,[0,1,3,4,5]⟩,
 ⟨none,.store true 3 (.t 10) (.t 14),none,[0,1,2,3,4,5,6]⟩]
def qo8:List VOper:=[
 ⟨some 16,.move (.t 0),none,[]⟩,
 ⟨some 17,.load true 3 (.t 4),none,[]⟩,
 ⟨some 18,.load true 3 (.t 5),none,[]⟩,
 ⟨some 19,.call true (.c (.fn 178 [])) [.t 16,.t 17,.t 18],none,[]⟩,
 ⟨some 15,.move (.t 19),none,[]⟩]
def quh:List VOper:=[
 ⟨some 20,.load true 3 (.t 9),none,[]⟩,
 ⟨some 21,.load true 3 (.t 10),none,[]⟩,
 ⟨none,.storeN 3 (.t 6) (.t 20) [10],none,[0]⟩,
 ⟨none,.store false 3 (.t 7) (.t 21),none,[0,1,2]⟩,
 ⟨some 8,.move (.c (.d (.bool true))),none,[0,1,2,3]⟩]
def qo7:List VOper:=[
 ⟨some 23,.move (.t 0),none,[]⟩,
 ⟨some 24,.load true 3 (.t 5),none,[]⟩,
 ⟨some 25,.load true 3 (.t 4),none,[]⟩,
 ⟨some 26,.call true (.c (.fn 178 [])) [.t 23,.t 24,.t 25],none,[]⟩,
 ⟨some 22,.move (.t 26),none,[]⟩]
def qug:List VOper:=[
 ⟨some 27,.load true 3 (.t 10),none,[]⟩,
 ⟨some 28,.load true 3 (.t 9),none,[]⟩,
 ⟨none,.storeN 3 (.t 6) (.t 27) [9],none,[0]⟩,
 ⟨none,.store false 3 (.t 7) (.t 28),none,[0,1,2]⟩,
 ⟨some 8,.move (.c (.d (.bool true))),none,[0,1,2,3]⟩]
def quf:List VOper:=[
 ⟨some 29,.load true 3 (.t 9),none,[]⟩,
 ⟨some 30,.load true 3 (.t 10),none,[]⟩,
 ⟨none,.storeN 3 (.t 6) (.t 29) [10],none,[0]⟩,
 ⟨none,.store false 3 (.t 7) (.t 30),none,[0,1,2]⟩,
 ⟨some 8,.move (.c (.d (.bool false))),none,[0,1,2,3]⟩]
def qzj:VFn:=⟨3,[.cell 6 true 3,.cell 7 true 3,.tmp 8],(.seq (.region false 4 [0,4,5,6,7] qo9) (.seq (.region true 2 [0,4,5,6,7,9,10] qui) (.seq (.block 0 (.seq (.region false 0 [0,4,5,6,7,9,10,15] qo8) (.cond (.t 15) (.seq (.region true 0 [6,7,8] quh) .ret) (.seq (.region false 0 [6,7,9,10,22] qo7) (.cond (.t 22) (.seq (.region true 0 [6,7,8] qug) .ret) .skip))))) (.seq (.region true 0 [6,7,8] quf) .ret))))⟩
def que:List VOper:=[
 ⟨some 2,.move (.c (.d (.bool false))),none,[]⟩]
def qud:List VOper:=[
 ⟨some 13,.move (.t 0),none,[]⟩,
 ⟨some 14,.call true (.c (.fn 133 [])) [.t 13],none,[]⟩]
def quc:List VOper:=[
 ⟨some 2,.move (.c (.d (.bool true))),none,[]⟩]
def qub:List VOper:=[
 ⟨some 16,.move (.t 0),none,[]⟩,
 ⟨some 17,.call true (.c (.fn 177 [])) [.t 16],none,[]⟩,
 ⟨some 15,.move (.t 17),none,[]⟩,
 ⟨some 18,.extract (.t 15) 0,none,[]⟩,
 ⟨some 19,.extract (.t 15) 1,none,[]⟩,
 ⟨some 20,.extract (.t 15) 2,none,[]⟩,
 ⟨some 4,.alloc 0 [.int .i64 0,.int .i64 0,.sl .nil []],none,[]⟩,
 ⟨some 5,.alloc 1 [.int .i64 0,.int .i64 0,.sl .nil []],none,[]⟩,
 ⟨some 3,.move (.t 18),none,[]⟩,
 ⟨none,.store false 3 (.t 4) (.t 19),none,[]⟩,
 ⟨none,.store false 3 (.t 5) (.t 20),none,[]⟩]
def qua:List VOper:=[
 ⟨some 21,.move (.t 3),none,[]⟩,
 ⟨some 22,.load true 3 (.t 4),none,[]⟩,
 ⟨some 23,.load true 3 (.t 5),none,[]⟩,
 ⟨some 24,.call true (.c (.fn 178 [])) [.t 21,.t 22,.t 23],none,[]⟩,
 ⟨some 6,.move (.t 24),none,[]⟩]
def qt9:List VOper:=[
 ⟨some 26,.move (.t 3),none,[]⟩,
 ⟨some 27,.load true 3 (.t 4),none,[]⟩,
 ⟨some 28,.load true 3 (.t 5),none,[]⟩,
 ⟨some 29,.call true (.c (.fn 340 [])) [.t 26,.t 27,.t 28],none,[]⟩,
 ⟨some 25,.move (.t 29),none,[]⟩,
 ⟨some 30,.extract (.t 25) 0,none,[]⟩,
 ⟨some 31,.extract (.t 25) 1,none,[]⟩,
 ⟨some 32,.extract (.t 25) 2,none,[]⟩,
 ⟨some 7,.alloc 0 [.int .i64 0,.int .i64 0,.sl .nil []],none,[]⟩,
 ⟨some 8,.alloc 1 [.int .i64 0,.int .i64 0,.sl .nil []],none,[]⟩,
 ⟨none,.store false 3 (.t 7) (.t 30),none,[]⟩,
 ⟨none,.store false 3 (.t 8) (.t 31),none,[]⟩,
 ⟨some 9,.move (.t 32),none,[]⟩]
def qt8:List VOper:=[
 ⟨some 34,.move (.t 3),none,[]⟩,
 ⟨some 35,.load true 3 (.t 4),none,[]⟩,
 ⟨some 36,.load true 3 (.t 5),none,[]⟩,
 ⟨some 37,.call true (.c (.fn 339 [])) [.t 34,.t 35,.t 36],none,[]⟩,
 ⟨some 33,.move (.t 37),none,[]⟩,
 ⟨some 38,.extract (.t 33) 0,none,[]⟩,
 ⟨some 39,.extract (.t 33) 1,none,[]⟩,
 ⟨some 40,.extract (.t 33) 2,none,[]⟩,
 ⟨some 10,.alloc 0 [.int .i64 0,.int .i64 0,.sl .nil []],none,[]⟩,
 ⟨some 11,.alloc 1 [.int .i64 0,.int .i64 0,.sl .nil []],none,[]⟩,
 ⟨none,.store false 3 (.t 10) (.t 38),none,[]⟩,
 ⟨none,.store false 3 (.t 11) (.t 39),none,[]⟩,
 ⟨some 12,.move (.t 40),none,[]⟩]
def qt7:List VOper:=[
 ⟨some 41,.move (.t 6),none,[]⟩,
 ⟨some 42,.move (.t 3),none,[]⟩,
 ⟨some 43,.load true 3 (.t 4),none,[]⟩,
 ⟨some 44,.load true 3 (.t 5),none,[]⟩,
 ⟨some 45,.call true (.c (.fn 179 [])) [.t 42,.t 43,.t 44],none,[]⟩,
 ⟨some 46,.eqB true (.t 41) (.t 45),none,[]⟩,
 ⟨some 47,.move (.t 46),none,[]⟩,
 ⟨some 48,.move (.t 9),some (47,false),[]⟩,
 ⟨some 49,.move (.t 12),some (47,false),[]⟩,
 ⟨some 50,.eqB true (.t 48) (.t 49),some (47,false),[]⟩,
 ⟨some 51,.pick (.t 47) (.c (.d (.bool true))) (.t 50),none,[]⟩,
 ⟨some 52,.move (.t 51),none,[]⟩,
 ⟨some 53,.load true 3 (.t 7),some (52,false),[]⟩,
 ⟨some 54,.load true 3 (.t 10),some (52,false),[]⟩,
 ⟨some 55,.call true (.c (.fn 4 [])) [.t 53,.t 54],some (52,false),[]⟩,
 ⟨some 56,.not (.t 55),some (52,false),[]⟩,
 ⟨some 57,.pick (.t 52) (.c (.d (.bool true))) (.t 56),none,[]⟩,
 ⟨some 58,.move (.t 57),none,[]⟩,
 ⟨some 59,.load true 3 (.t 8),some (58,false),[]⟩,
 ⟨some 60,.load true 3 (.t 11),some (58,false),[]⟩,
 ⟨some 61,.call true (.c (.fn 4 [])) [.t 59,.t 60],some (58,false),[]⟩,
 ⟨some 62,.not (.t 61),some (58,false),[]⟩,
 ⟨some 63,.pick (.t 58) (.c (.d (.bool true))) (.t 62),none,[]⟩,
 ⟨some 64,.move (.t 63),none,[]⟩,
 ⟨some 65,.move (.t 3),some (64,false),[]⟩,
 ⟨some 66,.load true 3 (.t 4),some (64,false),[]⟩,
 ⟨some 67,.load true 3 (.t 4),some (64,false),[]⟩,
 ⟨some 68,.call true (.c (.fn 178 [])) [.t 65,.t 66,.t 67],some (64,false),[]⟩,
 ⟨some 69,.pick (.t 64) (.c (.d (.bool true))) (.t 68),none,[]⟩,
 ⟨some 70,.move (.t 69),none,[]⟩,
 ⟨some 71,.move (.t 6),some (70,false),[]⟩,
 ⟨some 72,.move (.t 71),some (70,false),[]⟩,
 ⟨some 73,.move (.t 3),some (72,true),[]⟩,
 ⟨some 74,.load true 3 (.t 5),some (72,true),[]⟩,
 ⟨some 75,.load true 3 (.t 4),some (72,true),[]⟩,
 ⟨some 76,.call true (.c (.fn 178 [])) [.t 73,.t 74,.t 75],some (72,true),[]⟩,
 ⟨some 77,.pick (.t 72) (.t 76) (.c (.d (.bool false))),some (70,false),[]⟩,
 ⟨some 78,.pick (.t 70) (.c (.d (.bool true))) (.t 77),none,[]⟩]
def qt6:List VOper:=[
 ⟨some 2,.move (.c (.d (.bool false))),none,[]⟩]
def qt5:List VOper:=[
 ⟨some 79,.move (.t 9),none,[]⟩,
 ⟨some 80,.move (.t 6),none,[]⟩,
 ⟨some 81,.move (.t 80),none,[]⟩,
 ⟨some 82,.move (.t 3),some (81,false),[]⟩,
 ⟨some 83,.load true 3 (.t 5),some (81,false),[]⟩,
 ⟨some 84,.load true 3 (.t 4),some (81,false),[]⟩,
 ⟨some 85,.call true (.c (.fn 178 [])) [.t 82,.t 83,.t 84],some (81,false),[]⟩,
 ⟨some 86,.pick (.t 81) (.c (.d (.bool true))) (.t 85),none,[]⟩,
 ⟨some 87,.eqB true (.t 79) (.t 86),none,[]⟩]
def qoa:List VOper:=[
 ⟨some 2,.move (.c (.d (.bool false))),none,[]⟩]
def qn9:List VOper:=[
 ⟨some 88,.move (.t 9),none,[]⟩,
 ⟨some 89,.not (.t 88),none,[]⟩,
 ⟨some 90,.move (.t 89),none,[]⟩,
 ⟨some 91,.move (.t 3),some (90,false),[]⟩,
 ⟨some 92,.load true 3 (.t 7),some (90,false),[]⟩,
 ⟨some 93,.load true 3 (.t 8),some (90,false),[]⟩,
 ⟨some 94,.call true (.c (.fn 178 [])) [.t 91,.t 92,.t 93],some (90,false),[]⟩,
 ⟨some 95,.pick (.t 90) (.c (.d (.bool true))) (.t 94),none,[]⟩,
 ⟨some 2,.move (.t 95),none,[]⟩]
def qBg:VFn:=⟨1,[.tmp 2],(.seq (.region false 0 [0] que) (.seq (.seq (.region false 0 [0,14] qud) (.cond (.t 14) (.seq (.region false 0 [2] quc) .ret) .skip)) (.seq (.region false 2 [3,4,5] qub) (.seq (.region false 0 [3,4,5,6] qua) (.seq (.region false 2 [3,4,5,6,7,8,9] qt9) (.seq (.region false 2 [3,4,5,6,7,8,9,10,11,12] qt8) (.seq (.seq (.region false 0 [3,4,5,6,7,8,9,78] qt7) (.cond (.t 78) (.seq (.region false 0 [2] qt6) .ret) .skip)) (.seq (.seq (.region false 0 [3,7,8,9,87] qt5) (.cond (.t 87) (.seq (.region false 0 [2] qoa) .ret) .skip)) (.seq (.region false 0 [2] qn9) .ret)))))))))⟩
def look:List (Nat×VFn)->Nat->Option VFn
 | [],_=>none
 |(k,v)::r,n=>if n=k then some v else look r n
def qr9:List (Nat×VFn):=[(3,v3),(4,v4),(6,v6),(13,v13),(14,v14),(18,v18),(19,v19),(22,v22),(23,v23),(24,v24),(25,v25),(29,v29),(30,v30),(31,v31),(33,v33),(34,v34),(47,v47),(53,v53),(54,v54),(55,v55),(56,v56),(59,v59),(60,v60),(61,v61),(62,v62),(70,v70),(73,v73),(74,v74),(75,v75),(77,v77),(78,v78),(79,v79),(80,v80),(81,v81),(82,v82),(83,v83),(84,v84),(85,v85),(102,qDj),(103,qDi),(104,qDh),(105,qBm),(106,qG5),(107,qG4),(108,qzl),(110,qDg),(111,qxS),(112,qzk),(117,qtG),(118,qtF),(133,qDf),(146,qBl),(147,qDe),(150,qDd),(151,qDc),(153,qDb),(154,qDa),(155,qC9),(156,qC8),(159,qC7),(160,qC6),(161,qC5),(162,qC4),(163,qC3),(164,v164),(165,qBj),(166,qC2),(177,qC1),(178,qxR),(179,qxQ),(180,qw0),(339,qBh),(340,qzj),(363,qBg)]
def qBo:List (Nat×SFn):=[]
def qy7:List (Nat×Nat):=[(161,1)]
def qu0:List (Nat×Nat)->Nat->Option Nat
 | [],_=>none
 |(k,v)::r,n=>if n=k then some v else qu0 r n
def qyx:List (Nat×(List DV->Option DV)):=[(106,qdy)]
def E:Env:=⟨look qr9,fun k=>(qjg qyx k).map qsD,quZ qBo,qu0 qy7⟩
theorem qLr:E.code 3=some v3:=by kernel_rfl
theorem qLq:E.code 4=some v4:=by kernel_rfl
theorem qLp:E.code 6=some v6:=by kernel_rfl
theorem qKx:E.code 13=some v13:=by kernel_rfl
theorem qKw:E.code 14=some v14:=by kernel_rfl
theorem qKv:E.code 18=some v18:=by kernel_rfl
theorem qKu:E.code 19=some v19:=by kernel_rfl
theorem qKt:E.code 22=some v22:=by kernel_rfl
theorem qKs:E.code 23=some v23:=by kernel_rfl
theorem qKr:E.code 24=some v24:=by kernel_rfl
theorem qKq:E.code 25=some v25:=by kernel_rfl
theorem qKp:E.code 29=some v29:=by kernel_rfl
theorem qKo:E.code 30=some v30:=by kernel_rfl
theorem qKn:E.code 31=some v31:=by kernel_rfl
theorem qKm:E.code 33=some v33:=by kernel_rfl
theorem qKl:E.code 34=some v34:=by kernel_rfl
theorem qKk:E.code 47=some v47:=by kernel_rfl
theorem qKj:E.code 53=some v53:=by kernel_rfl
theorem qKi:E.code 54=some v54:=by kernel_rfl
theorem qKh:E.code 55=some v55:=by kernel_rfl
theorem qKg:E.code 56=some v56:=by kernel_rfl
theorem qKf:E.code 59=some v59:=by kernel_rfl
theorem qKe:E.code 60=some v60:=by kernel_rfl
theorem qKd:E.code 61=some v61:=by kernel_rfl
theorem qKc:E.code 62=some v62:=by kernel_rfl
theorem qKb:E.code 70=some v70:=by kernel_rfl
theorem qKa:E.code 73=some v73:=by kernel_rfl
theorem qJ9:E.code 74=some v74:=by kernel_rfl
theorem qJ8:E.code 75=some v75:=by kernel_rfl
theorem qJ7:E.code 77=some v77:=by kernel_rfl
theorem qJ6:E.code 78=some v78:=by kernel_rfl
theorem qJ5:E.code 79=some v79:=by kernel_rfl
theorem qJ4:E.code 80=some v80:=by kernel_rfl
theorem qJ3:E.code 81=some v81:=by kernel_rfl
theorem qJ2:E.code 82=some v82:=by kernel_rfl
theorem qJ1:E.code 83=some v83:=by kernel_rfl
theorem qJ0:E.code 84=some v84:=by kernel_rfl
theorem qJZ:E.code 85=some v85:=by kernel_rfl
theorem qHO:E.code 102=some qDj:=by kernel_rfl
theorem qHN:E.code 103=some qDi:=by kernel_rfl
theorem qHM:E.code 104=some qDh:=by kernel_rfl
theorem qHL:E.code 105=some qBm:=by kernel_rfl
theorem qHK:E.code 106=some qG5:=by kernel_rfl
theorem qHJ:E.code 107=some qG4:=by kernel_rfl
theorem qHI:E.code 108=some qzl:=by kernel_rfl
theorem qHH:E.code 110=some qDg:=by kernel_rfl
theorem qHG:E.code 111=some qxS:=by kernel_rfl
theorem qHF:E.code 112=some qzk:=by kernel_rfl
theorem qHE:E.code 117=some qtG:=by kernel_rfl
theorem qHD:E.code 118=some qtF:=by kernel_rfl
theorem qHC:E.code 133=some qDf:=by kernel_rfl
theorem qHB:E.code 146=some qBl:=by kernel_rfl
theorem qHA:E.code 147=some qDe:=by kernel_rfl
theorem qHz:E.code 150=some qDd:=by kernel_rfl
theorem qHy:E.code 151=some qDc:=by kernel_rfl
theorem qHx:E.code 153=some qDb:=by kernel_rfl
theorem qHw:E.code 154=some qDa:=by kernel_rfl
theorem qHv:E.code 155=some qC9:=by kernel_rfl
theorem qHu:E.code 156=some qC8:=by kernel_rfl
theorem qHt:E.code 159=some qC7:=by kernel_rfl
theorem qHs:E.code 160=some qC6:=by kernel_rfl
theorem qHr:E.code 161=some qC5:=by kernel_rfl
theorem qHq:E.code 162=some qC4:=by kernel_rfl
theorem qHp:E.code 163=some qC3:=by kernel_rfl
theorem qHo:E.code 164=some v164:=by kernel_rfl
theorem qHn:E.code 165=some qBj:=by kernel_rfl
theorem qHm:E.code 166=some qC2:=by kernel_rfl
theorem qHl:E.code 177=some qC1:=by kernel_rfl
theorem qHk:E.code 178=some qxR:=by kernel_rfl
theorem qHj:E.code 179=some qxQ:=by kernel_rfl
theorem qHi:E.code 180=some qw0:=by kernel_rfl
theorem qHh:E.code 339=some qBh:=by kernel_rfl
theorem qHg:E.code 340=some qzj:=by kernel_rfl
theorem qHf:E.code 363=some qBg:=by kernel_rfl
end Go.Proofs.Ytfiakfiocdfpbaa.VS
