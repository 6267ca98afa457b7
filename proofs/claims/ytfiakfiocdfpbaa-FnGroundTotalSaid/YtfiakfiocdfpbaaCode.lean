/- The code of the functions that the laws reach, for the evaluator. -/
import Derived.Test.YtfiakfiocdfpbaaNat0
import Derived.KernelRfl
set_option linter.unusedVariables false
namespace Go.Proofs.Ytfiakfiocdfpbaa.VS
def qEa:List VOper:=[
 ⟨some 2,.box 0 (.t 0),none,[]⟩,
 ⟨some 3,.box 1 (.t 1),none,[]⟩,
 ⟨some 4,.move (.c (.d (.bool false))),none,[]⟩]
def qD9:List VOper:=[
 ⟨some 6,.fieldAddr 0 (.t 2),none,[]⟩,
 ⟨some 7,.load false 1 (.t 6),none,[]⟩,
 ⟨some 8,.fieldAddr 0 (.t 3),none,[]⟩,
 ⟨some 9,.load false 1 (.t 8),none,[]⟩,
 ⟨some 10,.bin .neq (.t 7) (.t 9),none,[]⟩,
 ⟨some 11,.move (.t 10),none,[]⟩,
 ⟨some 12,.fieldAddr 1 (.t 2),some (11,false),[]⟩,
 ⟨some 13,.load false 1 (.t 12),some (11,false),[]⟩,
 ⟨some 14,.fieldAddr 1 (.t 3),some (11,false),[]⟩,
 ⟨some 15,.load false 1 (.t 14),some (11,false),[]⟩,
 ⟨some 16,.bin .neq (.t 13) (.t 15),some (11,false),[]⟩,
 ⟨some 17,.pick (.t 11) (.c (.d (.bool true))) (.t 16),none,[]⟩,
 ⟨some 18,.move (.t 17),none,[]⟩,
 ⟨some 19,.fieldAddr 2 (.t 2),some (18,false),[]⟩,
 ⟨some 20,.load false 1 (.t 19),some (18,false),[]⟩,
 ⟨some 21,.len false (.t 20),some (18,false),[]⟩,
 ⟨some 22,.fieldAddr 2 (.t 3),some (18,false),[]⟩,
 ⟨some 23,.load false 1 (.t 22),some (18,false),[]⟩,
 ⟨some 24,.len false (.t 23),some (18,false),[]⟩,
 ⟨some 25,.bin .neq (.t 21) (.t 24),some (18,false),[]⟩,
 ⟨some 26,.pick (.t 18) (.c (.d (.bool true))) (.t 25),none,[]⟩]
def qD8:List VOper:=[
 ⟨some 4,.move (.c (.d (.bool false))),none,[]⟩]
def qJX:List VOper:=[
 ⟨some 5,.move (.c (.d (.int .i64 0))),none,[]⟩]
def qGs:List VOper:=[
 ⟨some 27,.move (.t 5),none,[]⟩,
 ⟨some 28,.fieldAddr 2 (.t 2),none,[]⟩,
 ⟨some 29,.load false 1 (.t 28),none,[]⟩,
 ⟨some 30,.len false (.t 29),none,[]⟩,
 ⟨some 31,.bin .lss (.t 27) (.t 30),none,[]⟩]
def qHM:List VOper:=[
 ⟨some 34,.fieldAddr 2 (.t 2),none,[]⟩,
 ⟨some 35,.load false 1 (.t 34),none,[0]⟩,
 ⟨some 36,.move (.t 5),none,[]⟩,
 ⟨some 37,.indexAddr 3 none (.t 35) (.t 36),none,[1,2]⟩,
 ⟨some 38,.load true 3 (.t 37),none,[3]⟩,
 ⟨some 39,.fieldAddr 2 (.t 3),none,[]⟩,
 ⟨some 40,.load false 1 (.t 39),none,[5]⟩,
 ⟨some 41,.move (.t 5),none,[]⟩,
 ⟨some 42,.indexAddr 3 none (.t 40) (.t 41),none,[6,7]⟩,
 ⟨some 43,.load true 3 (.t 42),none,[8]⟩,
 ⟨some 44,.call true (.c (.fn 3 [])) [.t 38,.t 43],none,[4,9]⟩,
 ⟨some 45,.not (.t 44),none,[10]⟩]
def qHL:List VOper:=[
 ⟨some 4,.move (.c (.d (.bool false))),none,[]⟩]
def qHN:List VOper:=[
 ⟨some 32,.move (.t 5),none,[]⟩,
 ⟨some 33,.bin .add (.t 32) (.c (.d (.int .i64 1))),none,[]⟩,
 ⟨some 5,.move (.t 33),none,[]⟩]
def qF9:VCode:=(.seq (.seq (.region false 0 [2,3,5,31] qGs) (.cond (.t 31) .skip (.exit 0))) (.seq (.block 1 (.seq (.region true 0 [2,3,5,45] qHM) (.cond (.t 45) (.seq (.region false 0 [4] qHL) .ret) .skip))) (.region false 0 [2,3,5] qHN)))
def qHK:List VOper:=[
 ⟨some 4,.move (.c (.d (.bool true))),none,[]⟩]
def v3:VFn:=⟨2,[.tmp 4],(.seq (.region false 2 [2,3] qEa) (.seq (.seq (.region false 0 [2,3,26] qD9) (.cond (.t 26) (.seq (.region false 0 [4] qD8) .ret) .skip)) (.seq (.seq (.region false 0 [2,3,5] qJX) (.block 0 (.loop [2,3,5] qF9))) (.seq (.region false 0 [4] qHK) .ret))))⟩
def qJW:List VOper:=[
 ⟨some 2,.box 0 (.t 0),none,[]⟩,
 ⟨some 3,.box 1 (.t 1),none,[]⟩,
 ⟨some 4,.move (.c (.d (.bool false))),none,[]⟩]
def qJV:List VOper:=[
 ⟨some 5,.load true 3 (.t 2),none,[]⟩,
 ⟨some 6,.load true 3 (.t 3),none,[]⟩,
 ⟨some 7,.call true (.c (.fn 6 [])) [.t 5,.t 6],none,[]⟩,
 ⟨some 8,.bin .eql (.t 7) (.c (.d (.int .i64 0))),none,[]⟩,
 ⟨some 4,.move (.t 8),none,[]⟩]
def v4:VFn:=⟨2,[.tmp 4],(.seq (.region false 2 [2,3] qJW) (.seq (.region false 0 [4] qJV) .ret))⟩
def qJU:List VOper:=[
 ⟨some 2,.box 0 (.t 0),none,[]⟩,
 ⟨some 3,.box 1 (.t 1),none,[]⟩,
 ⟨some 4,.move (.c (.d (.int .i64 0))),none,[]⟩]
def qJT:List VOper:=[
 ⟨some 9,.fieldAddr 0 (.t 2),none,[]⟩,
 ⟨some 10,.load false 1 (.t 9),none,[]⟩,
 ⟨some 11,.fieldAddr 0 (.t 3),none,[]⟩,
 ⟨some 12,.load false 1 (.t 11),none,[]⟩,
 ⟨some 13,.build [.int .i64 0,.int .i64 0] [(0,1,.t 10),(1,1,.t 12)],none,[]⟩,
 ⟨some 14,.fieldAddr 1 (.t 2),none,[]⟩,
 ⟨some 15,.load false 1 (.t 14),none,[]⟩,
 ⟨some 16,.fieldAddr 1 (.t 3),none,[]⟩,
 ⟨some 17,.load false 1 (.t 16),none,[]⟩,
 ⟨some 18,.build [.int .i64 0,.int .i64 0] [(0,1,.t 15),(1,1,.t 17)],none,[]⟩,
 ⟨some 19,.fieldAddr 2 (.t 2),none,[]⟩,
 ⟨some 20,.load false 1 (.t 19),none,[]⟩,
 ⟨some 21,.len false (.t 20),none,[]⟩,
 ⟨some 22,.fieldAddr 2 (.t 3),none,[]⟩,
 ⟨some 23,.load false 1 (.t 22),none,[]⟩,
 ⟨some 24,.len false (.t 23),none,[]⟩,
 ⟨some 25,.build [.int .i64 0,.int .i64 0] [(0,1,.t 21),(1,1,.t 24)],none,[]⟩,
 ⟨some 26,.buildSlice 2 (.agg [.int .i64 0,.int .i64 0]) 3 [(0,.t 13),(1,.t 18),(2,.t 25)],none,[]⟩,
 ⟨some 27,.len false (.t 26),none,[]⟩,
 ⟨some 28,.move (.c (.d (.int .i64 0))),none,[]⟩]
def qDL:List VOper:=[
 ⟨some 29,.bin .lss (.t 28) (.t 27),none,[]⟩]
def qGr:List VOper:=[
 ⟨some 30,.indexAddr 2 none (.t 26) (.t 28),none,[]⟩,
 ⟨some 31,.load true 2 (.t 30),none,[]⟩,
 ⟨some 6,.alloc 0 [.int .i64 0,.int .i64 0],none,[]⟩,
 ⟨none,.store false 2 (.t 6) (.t 31),none,[]⟩]
def qGq:List VOper:=[
 ⟨some 33,.indexAddr 1 (some 2) (.t 6) (.c (.d (.int .i64 0))),none,[]⟩,
 ⟨some 34,.load false 1 (.t 33),none,[]⟩,
 ⟨some 35,.indexAddr 1 (some 2) (.t 6) (.c (.d (.int .i64 1))),none,[]⟩,
 ⟨some 36,.load false 1 (.t 35),none,[]⟩,
 ⟨some 37,.bin .lss (.t 34) (.t 36),none,[]⟩,
 ⟨some 32,.move (.t 37),none,[]⟩]
def qGp:List VOper:=[
 ⟨some 4,.move (.c (.d (.int .i64 (-1)))),none,[]⟩]
def qHJ:List VOper:=[
 ⟨some 39,.indexAddr 1 (some 2) (.t 6) (.c (.d (.int .i64 0))),none,[]⟩,
 ⟨some 40,.load false 1 (.t 39),none,[]⟩,
 ⟨some 41,.indexAddr 1 (some 2) (.t 6) (.c (.d (.int .i64 1))),none,[]⟩,
 ⟨some 42,.load false 1 (.t 41),none,[]⟩,
 ⟨some 43,.bin .gtr (.t 40) (.t 42),none,[]⟩,
 ⟨some 38,.move (.t 43),none,[]⟩]
def qHI:List VOper:=[
 ⟨some 4,.move (.c (.d (.int .i64 1))),none,[]⟩]
def qJS:List VOper:=[
 ⟨some 44,.bin .add (.t 28) (.c (.d (.int .i64 1))),none,[]⟩,
 ⟨some 28,.move (.t 44),none,[]⟩]
def qCe:VCode:=(.seq (.region false 0 [2,3,26,27,28,29] qDL) (.seq (.cond (.t 29) .skip (.exit 0)) (.seq (.block 1 (.seq (.region false 1 [2,3,6,26,27,28] qGr) (.block 2 (.seq (.region false 0 [2,3,6,26,27,28,32] qGq) (.cond (.t 32) (.seq (.region false 0 [4] qGp) .ret) (.seq (.region false 0 [2,3,26,27,28,38] qHJ) (.cond (.t 38) (.seq (.region false 0 [4] qHI) .ret) .skip))))))) (.region false 0 [2,3,26,27,28] qJS))))
def qJR:List VOper:=[
 ⟨some 45,.fieldAddr 2 (.t 2),none,[]⟩,
 ⟨some 46,.load false 1 (.t 45),none,[]⟩,
 ⟨some 47,.len false (.t 46),none,[]⟩,
 ⟨some 48,.move (.c (.d (.int .i64 0))),none,[]⟩]
def qxQ:List VOper:=[
 ⟨some 49,.bin .lss (.t 48) (.t 47),none,[]⟩]
def qA4:List VOper:=[
 ⟨some 50,.move (.t 48),none,[]⟩,
 ⟨some 7,.move (.t 50),none,[]⟩]
def qA3:List VOper:=[
 ⟨some 51,.fieldAddr 2 (.t 2),none,[]⟩,
 ⟨some 52,.load false 1 (.t 51),none,[0]⟩,
 ⟨some 53,.move (.t 7),none,[]⟩,
 ⟨some 54,.indexAddr 3 none (.t 52) (.t 53),none,[1,2]⟩,
 ⟨some 55,.load true 3 (.t 54),none,[3]⟩,
 ⟨some 56,.fieldAddr 2 (.t 3),none,[]⟩,
 ⟨some 57,.load false 1 (.t 56),none,[5]⟩,
 ⟨some 58,.move (.t 7),none,[]⟩,
 ⟨some 59,.indexAddr 3 none (.t 57) (.t 58),none,[6,7]⟩,
 ⟨some 60,.load true 3 (.t 59),none,[8]⟩,
 ⟨some 61,.call true (.c (.fn 6 [])) [.t 55,.t 60],none,[4,9]⟩,
 ⟨some 8,.move (.t 61),none,[0,1,2,3,4,5,6,7,8,9,10]⟩]
def qA2:List VOper:=[
 ⟨some 62,.move (.t 8),none,[]⟩,
 ⟨some 63,.bin .neq (.t 62) (.c (.d (.int .i64 0))),none,[]⟩]
def qA1:List VOper:=[
 ⟨some 64,.move (.t 8),none,[]⟩,
 ⟨some 4,.move (.t 64),none,[]⟩]
def qA0:List VOper:=[
 ⟨some 65,.bin .add (.t 48) (.c (.d (.int .i64 1))),none,[]⟩,
 ⟨some 48,.move (.t 65),none,[]⟩]
def qCG:VCode:=(.seq (.region false 0 [2,3,47,48,49] qxQ) (.seq (.cond (.t 49) .skip (.exit 3)) (.seq (.block 4 (.seq (.region false 0 [2,3,7,47,48] qA4) (.seq (.region true 0 [2,3,8,47,48] qA3) (.seq (.region false 0 [2,3,8,47,48,63] qA2) (.cond (.t 63) (.seq (.region false 0 [4] qA1) .ret) .skip))))) (.region false 0 [2,3,47,48] qA0))))
def qDM:List VOper:=[
 ⟨some 4,.move (.c (.d (.int .i64 0))),none,[]⟩]
def v6:VFn:=⟨2,[.tmp 4],(.seq (.region false 2 [2,3] qJU) (.seq (.seq (.region false 0 [2,3,26,27,28] qJT) (.block 0 (.loop [2,3,26,27,28] qCe))) (.seq (.seq (.region false 0 [2,3,47,48] qJR) (.block 3 (.loop [2,3,47,48] qCG))) (.seq (.region false 0 [4] qDM) .ret))))⟩
def qrl:List VOper:=[
 ⟨some 4,.move (.c (.d (.int .i64 0))),none,[]⟩]
def qrk:List VOper:=[
 ⟨some 5,.move (.c (.d (.int .i64 0))),none,[]⟩]
def qrj:List VOper:=[
 ⟨some 6,.move (.t 5),none,[]⟩,
 ⟨some 7,.move (.t 0),none,[]⟩,
 ⟨some 8,.len false (.t 7),none,[]⟩,
 ⟨some 9,.bin .lss (.t 6) (.t 8),none,[]⟩]
def qrh:List VOper:=[
 ⟨some 12,.move (.t 0),none,[]⟩,
 ⟨some 13,.move (.t 5),none,[]⟩,
 ⟨some 14,.indexAddr 3 none (.t 12) (.t 13),none,[]⟩,
 ⟨some 15,.fieldAddr 0 (.t 14),none,[]⟩,
 ⟨some 16,.load false 1 (.t 15),none,[]⟩,
 ⟨some 17,.move (.t 1),none,[]⟩,
 ⟨some 18,.bin .eql (.t 16) (.t 17),none,[]⟩]
def qrg:List VOper:=[
 ⟨some 19,.move (.t 5),none,[]⟩,
 ⟨some 4,.move (.t 19),none,[]⟩]
def qri:List VOper:=[
 ⟨some 10,.move (.t 5),none,[]⟩,
 ⟨some 11,.bin .add (.t 10) (.c (.d (.int .i64 1))),none,[]⟩,
 ⟨some 5,.move (.t 11),none,[]⟩]
def qv8:VCode:=(.seq (.seq (.region false 0 [0,1,5,9] qrj) (.cond (.t 9) .skip (.exit 0))) (.seq (.block 1 (.seq (.region false 0 [0,1,5,18] qrh) (.cond (.t 18) (.seq (.region false 0 [4] qrg) .ret) .skip))) (.region false 0 [0,1,5] qri)))
def qrf:List VOper:=[
 ⟨some 4,.move (.c (.d (.int .i64 (-1)))),none,[]⟩]
def v13:VFn:=⟨2,[.tmp 4],(.seq (.region false 0 [0,1] qrl) (.seq (.seq (.region false 0 [0,1,5] qrk) (.block 0 (.loop [0,1,5] qv8))) (.seq (.region false 0 [4] qrf) .ret)))⟩
def qEs:List VOper:=[
 ⟨some 3,.box 0 (.t 1),none,[]⟩,
 ⟨some 4,.move (.c (.d (.int .i64 0))),none,[]⟩]
def qEr:List VOper:=[
 ⟨some 5,.move (.t 0),none,[]⟩,
 ⟨some 6,.makeFunc 18 [.t 3],none,[]⟩,
 ⟨some 7,.call false (.c (.fn 19 [])) [.t 5,.t 6],none,[]⟩,
 ⟨some 4,.move (.t 7),none,[]⟩]
def v14:VFn:=⟨2,[.tmp 4],(.seq (.region false 1 [0,3] qEs) (.seq (.region false 0 [4] qEr) .ret))⟩
def qEq:List VOper:=[
 ⟨some 2,.box 0 (.t 0),none,[]⟩,
 ⟨some 3,.move (.c (.d (.bool false))),none,[]⟩]
def qEp:List VOper:=[
 ⟨some 4,.fieldAddr 0 (.t 2),none,[]⟩,
 ⟨some 5,.load false 1 (.t 4),none,[]⟩,
 ⟨some 6,.load false 1 (.t 1),none,[]⟩,
 ⟨some 7,.bin .eql (.t 5) (.t 6),none,[]⟩,
 ⟨some 3,.move (.t 7),none,[]⟩]
def v18:VFn:=⟨2,[.tmp 3],(.seq (.region false 1 [1,2] qEq) (.seq (.region false 0 [3] qEp) .ret))⟩
def qre:List VOper:=[
 ⟨some 4,.move (.c (.d (.int .i64 0))),none,[]⟩]
def qrd:List VOper:=[
 ⟨some 6,.move (.t 0),none,[]⟩,
 ⟨some 7,.len false (.t 6),none,[]⟩,
 ⟨some 8,.move (.c (.d (.int .i64 0))),none,[]⟩]
def qrc:List VOper:=[
 ⟨some 9,.bin .lss (.t 8) (.t 7),none,[]⟩]
def qrb:List VOper:=[
 ⟨some 10,.move (.t 8),none,[]⟩,
 ⟨some 5,.move (.t 10),none,[]⟩]
def qra:List VOper:=[
 ⟨some 11,.move (.t 1),none,[]⟩,
 ⟨some 12,.move (.t 0),none,[]⟩,
 ⟨some 13,.move (.t 5),none,[]⟩,
 ⟨some 14,.indexAddr 3 none (.t 12) (.t 13),none,[]⟩,
 ⟨some 15,.load true 3 (.t 14),none,[]⟩,
 ⟨some 16,.call false (.t 11) [.t 15],none,[]⟩]
def qq9:List VOper:=[
 ⟨some 17,.move (.t 5),none,[]⟩,
 ⟨some 4,.move (.t 17),none,[]⟩]
def qq8:List VOper:=[
 ⟨some 18,.bin .add (.t 8) (.c (.d (.int .i64 1))),none,[]⟩,
 ⟨some 8,.move (.t 18),none,[]⟩]
def qv7:VCode:=(.seq (.region false 0 [0,1,7,8,9] qrc) (.seq (.cond (.t 9) .skip (.exit 0)) (.seq (.block 1 (.seq (.region false 0 [0,1,5,7,8] qrb) (.seq (.region false 0 [0,1,5,7,8,16] qra) (.cond (.t 16) (.seq (.region false 0 [4] qq9) .ret) .skip)))) (.region false 0 [0,1,7,8] qq8))))
def qq7:List VOper:=[
 ⟨some 4,.move (.c (.d (.int .i64 (-1)))),none,[]⟩]
def v19:VFn:=⟨2,[.tmp 4],(.seq (.region false 0 [0,1] qre) (.seq (.seq (.region false 0 [0,1,7,8] qrd) (.block 0 (.loop [0,1,7,8] qv7))) (.seq (.region false 0 [4] qq7) .ret)))⟩
def qEo:List VOper:=[
 ⟨some 1,.box 0 (.t 0),none,[]⟩,
 ⟨some 2,.move (.c (.d (.int .i64 0))),none,[]⟩]
def qEn:List VOper:=[
 ⟨some 3,.move (.c (.d (.int .i64 1))),none,[]⟩]
def qEm:List VOper:=[
 ⟨some 4,.move (.c (.d (.int .i64 0))),none,[]⟩]
def qBl:List VOper:=[
 ⟨some 5,.move (.t 4),none,[]⟩,
 ⟨some 6,.fieldAddr 2 (.t 1),none,[]⟩,
 ⟨some 7,.load false 1 (.t 6),none,[]⟩,
 ⟨some 8,.len false (.t 7),none,[]⟩,
 ⟨some 9,.bin .lss (.t 5) (.t 8),none,[]⟩]
def qEk:List VOper:=[
 ⟨some 12,.move (.t 3),none,[]⟩,
 ⟨some 13,.fieldAddr 2 (.t 1),none,[]⟩,
 ⟨some 14,.load false 1 (.t 13),none,[]⟩,
 ⟨some 15,.move (.t 4),none,[]⟩,
 ⟨some 16,.indexAddr 3 none (.t 14) (.t 15),none,[]⟩,
 ⟨some 17,.load true 3 (.t 16),none,[]⟩,
 ⟨some 18,.call true (.c (.fn 22 [])) [.t 17],none,[]⟩,
 ⟨some 19,.bin .add (.t 12) (.t 18),none,[]⟩,
 ⟨some 3,.move (.t 19),none,[]⟩]
def qEl:List VOper:=[
 ⟨some 10,.move (.t 4),none,[]⟩,
 ⟨some 11,.bin .add (.t 10) (.c (.d (.int .i64 1))),none,[]⟩,
 ⟨some 4,.move (.t 11),none,[]⟩]
def qyB:VCode:=(.seq (.seq (.region false 0 [1,3,4,9] qBl) (.cond (.t 9) .skip (.exit 0))) (.seq (.block 1 (.region false 0 [1,3,4] qEk)) (.region false 0 [1,3,4] qEl)))
def qEj:List VOper:=[
 ⟨some 20,.move (.t 3),none,[]⟩,
 ⟨some 2,.move (.t 20),none,[]⟩]
def v22:VFn:=⟨1,[.tmp 2],(.seq (.region false 1 [1] qEo) (.seq (.region false 0 [1,3] qEn) (.seq (.seq (.region false 0 [1,3,4] qEm) (.block 0 (.loop [1,3,4] qyB))) (.seq (.region false 0 [2] qEj) .ret))))⟩
def qEi:List VOper:=[
 ⟨some 1,.box 0 (.t 0),none,[]⟩,
 ⟨some 2,.move (.c (.d (.int .i64 0))),none,[]⟩]
def qEh:List VOper:=[
 ⟨some 3,.alloc 0 [.int .i64 0],none,[]⟩,
 ⟨none,.store false 1 (.t 3) (.c (.d (.int .i64 0))),none,[]⟩]
def qEg:List VOper:=[
 ⟨some 4,.load true 3 (.t 1),none,[]⟩,
 ⟨some 5,.makeFunc 24 [.t 3],none,[]⟩,
 ⟨some 6,.call false (.c (.fn 25 [])) [.t 4,.t 5],none,[]⟩]
def qEf:List VOper:=[
 ⟨some 7,.load false 1 (.t 3),none,[]⟩,
 ⟨some 2,.move (.t 7),none,[]⟩]
def v23:VFn:=⟨1,[.tmp 2],(.seq (.region false 1 [1] qEi) (.seq (.region false 1 [1,3] qEh) (.seq (.region false 0 [3] qEg) (.seq (.region false 0 [2] qEf) .ret))))⟩
def qEe:List VOper:=[
 ⟨some 2,.box 0 (.t 0),none,[]⟩]
def qEd:List VOper:=[
 ⟨some 3,.load false 1 (.t 1),none,[]⟩,
 ⟨some 4,.bin .add (.t 3) (.c (.d (.int .i64 1))),none,[]⟩,
 ⟨none,.store false 1 (.t 1) (.t 4),none,[]⟩]
def v24:VFn:=⟨2,[],(.seq (.region false 1 [1] qEe) (.region false 0 [] qEd))⟩
def qBk:List VOper:=[
 ⟨some 2,.box 0 (.t 0),none,[]⟩]
def qBj:List VOper:=[
 ⟨some 6,.move (.t 1),none,[]⟩,
 ⟨some 7,.load true 3 (.t 2),none,[]⟩,
 ⟨some 8,.call false (.t 6) [.t 7],none,[]⟩]
def qBi:List VOper:=[
 ⟨some 9,.fieldAddr 2 (.t 2),none,[]⟩,
 ⟨some 10,.load false 1 (.t 9),none,[]⟩,
 ⟨some 11,.len false (.t 10),none,[]⟩,
 ⟨some 12,.move (.c (.d (.int .i64 0))),none,[]⟩]
def qtT:List VOper:=[
 ⟨some 13,.bin .lss (.t 12) (.t 11),none,[]⟩]
def qBh:List VOper:=[
 ⟨some 14,.indexAddr 3 none (.t 10) (.t 12),none,[]⟩,
 ⟨some 15,.load true 3 (.t 14),none,[]⟩,
 ⟨some 5,.alloc 0 [.int .i64 0,.int .i64 0,.sl .nil []],none,[]⟩,
 ⟨none,.store false 3 (.t 5) (.t 15),none,[]⟩]
def qBg:List VOper:=[
 ⟨some 16,.load true 3 (.t 5),none,[]⟩,
 ⟨some 17,.move (.t 1),none,[]⟩,
 ⟨some 18,.call false (.c (.fn 25 [])) [.t 16,.t 17],none,[]⟩]
def qBf:List VOper:=[
 ⟨some 19,.bin .add (.t 12) (.c (.d (.int .i64 1))),none,[]⟩,
 ⟨some 12,.move (.t 19),none,[]⟩]
def qoD:VCode:=(.seq (.region false 0 [1,10,11,12,13] qtT) (.seq (.cond (.t 13) .skip (.exit 0)) (.seq (.block 1 (.seq (.region false 1 [1,5,10,11,12] qBh) (.region false 0 [1,10,11,12] qBg))) (.region false 0 [1,10,11,12] qBf))))
def v25:VFn:=⟨2,[],(.seq (.region false 1 [1,2] qBk) (.seq (.region false 0 [1,2] qBj) (.seq (.region false 0 [1,10,11,12] qBi) (.block 0 (.loop [1,10,11,12] qoD)))))⟩
def qEc:List VOper:=[
 ⟨some 4,.move (.c (.d (.bool false))),none,[]⟩]
def qEb:List VOper:=[
 ⟨some 5,.move (.t 1),none,[]⟩,
 ⟨some 6,.move (.t 0),none,[]⟩,
 ⟨some 7,.len false (.t 6),none,[]⟩,
 ⟨some 8,.bin .sub (.t 7) (.c (.d (.int .i64 1))),none,[]⟩,
 ⟨some 9,.call true (.c (.fn 30 [])) [.t 5,.c (.d (.int .i64 0)),.t 8],none,[]⟩,
 ⟨some 4,.move (.t 9),none,[]⟩]
def v29:VFn:=⟨2,[.tmp 4],(.seq (.region false 0 [0,1] qEc) (.seq (.region false 0 [4] qEb) .ret))⟩
def qBe:List VOper:=[
 ⟨some 6,.move (.c (.d (.bool false))),none,[]⟩]
def qBd:List VOper:=[
 ⟨some 7,.move (.t 0),none,[]⟩,
 ⟨some 8,.move (.t 1),none,[]⟩,
 ⟨some 9,.bin .geq (.t 7) (.t 8),none,[]⟩,
 ⟨some 10,.move (.t 9),none,[]⟩,
 ⟨some 11,.move (.t 0),some (10,true),[]⟩,
 ⟨some 12,.move (.t 2),some (10,true),[]⟩,
 ⟨some 13,.bin .leq (.t 11) (.t 12),some (10,true),[]⟩,
 ⟨some 14,.pick (.t 10) (.t 13) (.c (.d (.bool false))),none,[]⟩,
 ⟨some 6,.move (.t 14),none,[]⟩]
def v30:VFn:=⟨3,[.tmp 6],(.seq (.region false 0 [0,1,2] qBe) (.seq (.region false 0 [6] qBd) .ret))⟩
def qBc:List VOper:=[
 ⟨some 6,.move (.c (.d (.bool false))),none,[]⟩]
def qBb:List VOper:=[
 ⟨some 7,.move (.t 0),none,[]⟩,
 ⟨some 8,.move (.t 1),none,[]⟩,
 ⟨some 9,.bin .geq (.t 7) (.t 8),none,[]⟩,
 ⟨some 10,.move (.t 9),none,[]⟩,
 ⟨some 11,.move (.t 0),some (10,true),[]⟩,
 ⟨some 12,.move (.t 2),some (10,true),[]⟩,
 ⟨some 13,.bin .leq (.t 11) (.t 12),some (10,true),[]⟩,
 ⟨some 14,.pick (.t 10) (.t 13) (.c (.d (.bool false))),none,[]⟩,
 ⟨some 6,.move (.t 14),none,[]⟩]
def v31:VFn:=⟨3,[.tmp 6],(.seq (.region false 0 [0,1,2] qBc) (.seq (.region false 0 [6] qBb) .ret))⟩
def qBa:List VOper:=[
 ⟨some 4,.move (.c (.d (.bool false))),none,[]⟩]
def qA9:List VOper:=[
 ⟨some 5,.move (.t 1),none,[]⟩,
 ⟨some 6,.move (.t 0),none,[]⟩,
 ⟨some 7,.len false (.t 6),none,[]⟩,
 ⟨some 8,.bin .sub (.t 7) (.c (.d (.int .i64 1))),none,[]⟩,
 ⟨some 9,.call true (.c (.fn 31 [])) [.t 5,.c (.d (.int .i64 0)),.t 8],none,[]⟩,
 ⟨some 10,.move (.t 9),none,[]⟩,
 ⟨some 11,.move (.t 0),some (10,true),[]⟩,
 ⟨some 12,.move (.t 1),some (10,true),[]⟩,
 ⟨some 13,.indexAddr 3 none (.t 11) (.t 12),some (10,true),[]⟩,
 ⟨some 14,.fieldAddr 2 (.t 13),some (10,true),[]⟩,
 ⟨some 15,.load false 1 (.t 14),some (10,true),[]⟩,
 ⟨some 16,.pick (.t 10) (.t 15) (.c (.d (.bool false))),none,[]⟩,
 ⟨some 4,.move (.t 16),none,[]⟩]
def v33:VFn:=⟨2,[.tmp 4],(.seq (.region false 0 [0,1] qBa) (.seq (.region false 0 [4] qA9) .ret))⟩
def qA8:List VOper:=[
 ⟨some 4,.move (.c (.d (.bool false))),none,[]⟩]
def qA7:List VOper:=[
 ⟨some 5,.move (.t 0),none,[]⟩,
 ⟨some 6,.move (.t 1),none,[]⟩,
 ⟨some 7,.call true (.c (.fn 29 [])) [.t 5,.t 6],none,[]⟩,
 ⟨some 8,.move (.t 7),none,[]⟩,
 ⟨some 9,.move (.t 0),some (8,true),[]⟩,
 ⟨some 10,.move (.t 1),some (8,true),[]⟩,
 ⟨some 11,.indexAddr 3 none (.t 9) (.t 10),some (8,true),[]⟩,
 ⟨some 12,.fieldAddr 2 (.t 11),some (8,true),[]⟩,
 ⟨some 13,.load false 1 (.t 12),some (8,true),[]⟩,
 ⟨some 14,.pick (.t 8) (.t 13) (.c (.d (.bool false))),none,[]⟩,
 ⟨some 4,.move (.t 14),none,[]⟩]
def v34:VFn:=⟨2,[.tmp 4],(.seq (.region false 0 [0,1] qA8) (.seq (.region false 0 [4] qA7) .ret))⟩
def qq6:List VOper:=[
 ⟨some 4,.move (.c (.d (.int .i64 0))),none,[]⟩]
def qq5:List VOper:=[
 ⟨some 6,.move (.t 0),none,[]⟩,
 ⟨some 7,.len false (.t 6),none,[]⟩,
 ⟨some 8,.move (.c (.d (.int .i64 0))),none,[]⟩]
def qq4:List VOper:=[
 ⟨some 9,.bin .lss (.t 8) (.t 7),none,[]⟩]
def qq3:List VOper:=[
 ⟨some 10,.move (.t 8),none,[]⟩,
 ⟨some 5,.move (.t 10),none,[]⟩]
def qq2:List VOper:=[
 ⟨some 11,.move (.t 1),none,[]⟩,
 ⟨some 12,.move (.t 0),none,[]⟩,
 ⟨some 13,.move (.t 5),none,[]⟩,
 ⟨some 14,.indexAddr 1 none (.t 12) (.t 13),none,[]⟩,
 ⟨some 15,.load false 1 (.t 14),none,[]⟩,
 ⟨some 16,.call false (.t 11) [.t 15],none,[]⟩]
def qq1:List VOper:=[
 ⟨some 17,.move (.t 5),none,[]⟩,
 ⟨some 4,.move (.t 17),none,[]⟩]
def qq0:List VOper:=[
 ⟨some 18,.bin .add (.t 8) (.c (.d (.int .i64 1))),none,[]⟩,
 ⟨some 8,.move (.t 18),none,[]⟩]
def qv6:VCode:=(.seq (.region false 0 [0,1,7,8,9] qq4) (.seq (.cond (.t 9) .skip (.exit 0)) (.seq (.block 1 (.seq (.region false 0 [0,1,5,7,8] qq3) (.seq (.region false 0 [0,1,5,7,8,16] qq2) (.cond (.t 16) (.seq (.region false 0 [4] qq1) .ret) .skip)))) (.region false 0 [0,1,7,8] qq0))))
def qqZ:List VOper:=[
 ⟨some 4,.move (.c (.d (.int .i64 (-1)))),none,[]⟩]
def v47:VFn:=⟨2,[.tmp 4],(.seq (.region false 0 [0,1] qq6) (.seq (.seq (.region false 0 [0,1,7,8] qq5) (.block 0 (.loop [0,1,7,8] qv6))) (.seq (.region false 0 [4] qqZ) .ret)))⟩
def qn6:List VOper:=[
 ⟨some 4,.move (.c (.d (.bool false))),none,[]⟩]
def qn5:List VOper:=[
 ⟨some 5,.move (.c (.d (.int .i64 0))),none,[]⟩]
def qn4:List VOper:=[
 ⟨some 6,.move (.t 5),none,[]⟩,
 ⟨some 7,.move (.t 0),none,[]⟩,
 ⟨some 8,.len false (.t 7),none,[]⟩,
 ⟨some 9,.bin .lss (.t 6) (.t 8),none,[]⟩]
def qn2:List VOper:=[
 ⟨some 12,.move (.t 0),none,[]⟩,
 ⟨some 13,.move (.t 5),none,[]⟩,
 ⟨some 14,.indexAddr 1 none (.t 12) (.t 13),none,[]⟩,
 ⟨some 15,.load false 1 (.t 14),none,[]⟩,
 ⟨some 16,.move (.t 1),none,[]⟩,
 ⟨some 17,.bin .eql (.t 15) (.t 16),none,[]⟩]
def qn1:List VOper:=[
 ⟨some 4,.move (.c (.d (.bool true))),none,[]⟩]
def qn3:List VOper:=[
 ⟨some 10,.move (.t 5),none,[]⟩,
 ⟨some 11,.bin .add (.t 10) (.c (.d (.int .i64 1))),none,[]⟩,
 ⟨some 5,.move (.t 11),none,[]⟩]
def qv5:VCode:=(.seq (.seq (.region false 0 [0,1,5,9] qn4) (.cond (.t 9) .skip (.exit 0))) (.seq (.block 1 (.seq (.region false 0 [0,1,5,17] qn2) (.cond (.t 17) (.seq (.region false 0 [4] qn1) .ret) .skip))) (.region false 0 [0,1,5] qn3)))
def qn0:List VOper:=[
 ⟨some 4,.move (.c (.d (.bool false))),none,[]⟩]
def v53:VFn:=⟨2,[.tmp 4],(.seq (.region false 0 [0,1] qn6) (.seq (.seq (.region false 0 [0,1,5] qn5) (.block 0 (.loop [0,1,5] qv5))) (.seq (.region false 0 [4] qn0) .ret)))⟩
def qD7:List VOper:=[
 ⟨some 4,.move (.c (.d (.bool false))),none,[]⟩]
def qD6:List VOper:=[
 ⟨some 5,.move (.t 0),none,[]⟩,
 ⟨some 6,.move (.t 1),none,[]⟩,
 ⟨some 7,.call true (.c (.fn 55 [])) [.t 5,.t 6],none,[]⟩,
 ⟨some 4,.move (.t 7),none,[]⟩]
def v54:VFn:=⟨2,[.tmp 4],(.seq (.region false 0 [0,1] qD7) (.seq (.region false 0 [4] qD6) .ret))⟩
def qD5:List VOper:=[
 ⟨some 4,.move (.c (.d (.bool false))),none,[]⟩]
def qD4:List VOper:=[
 ⟨some 5,.move (.t 0),none,[]⟩,
 ⟨some 6,.move (.t 1),none,[]⟩,
 ⟨some 7,.call true (.c (.fn 56 [])) [.t 5,.t 6],none,[]⟩,
 ⟨some 8,.bin .geq (.t 7) (.c (.d (.int .i64 0))),none,[]⟩,
 ⟨some 4,.move (.t 8),none,[]⟩]
def v55:VFn:=⟨2,[.tmp 4],(.seq (.region false 0 [0,1] qD5) (.seq (.region false 0 [4] qD4) .ret))⟩
def qqY:List VOper:=[
 ⟨some 4,.move (.c (.d (.int .i64 0))),none,[]⟩]
def qqX:List VOper:=[
 ⟨some 6,.move (.t 0),none,[]⟩,
 ⟨some 7,.len false (.t 6),none,[]⟩,
 ⟨some 8,.move (.c (.d (.int .i64 0))),none,[]⟩]
def qqW:List VOper:=[
 ⟨some 9,.bin .lss (.t 8) (.t 7),none,[]⟩]
def qqV:List VOper:=[
 ⟨some 10,.move (.t 8),none,[]⟩,
 ⟨some 5,.move (.t 10),none,[]⟩]
def qqU:List VOper:=[
 ⟨some 11,.move (.t 1),none,[]⟩,
 ⟨some 12,.move (.t 0),none,[]⟩,
 ⟨some 13,.move (.t 5),none,[]⟩,
 ⟨some 14,.indexAddr 1 none (.t 12) (.t 13),none,[]⟩,
 ⟨some 15,.load false 1 (.t 14),none,[]⟩,
 ⟨some 16,.bin .eql (.t 11) (.t 15),none,[]⟩]
def qqT:List VOper:=[
 ⟨some 17,.move (.t 5),none,[]⟩,
 ⟨some 4,.move (.t 17),none,[]⟩]
def qqS:List VOper:=[
 ⟨some 18,.bin .add (.t 8) (.c (.d (.int .i64 1))),none,[]⟩,
 ⟨some 8,.move (.t 18),none,[]⟩]
def qv4:VCode:=(.seq (.region false 0 [0,1,7,8,9] qqW) (.seq (.cond (.t 9) .skip (.exit 0)) (.seq (.block 1 (.seq (.region false 0 [0,1,5,7,8] qqV) (.seq (.region false 0 [0,1,5,7,8,16] qqU) (.cond (.t 16) (.seq (.region false 0 [4] qqT) .ret) .skip)))) (.region false 0 [0,1,7,8] qqS))))
def qqR:List VOper:=[
 ⟨some 4,.move (.c (.d (.int .i64 (-1)))),none,[]⟩]
def v56:VFn:=⟨2,[.tmp 4],(.seq (.region false 0 [0,1] qqY) (.seq (.seq (.region false 0 [0,1,7,8] qqX) (.block 0 (.loop [0,1,7,8] qv4))) (.seq (.region false 0 [4] qqR) .ret)))⟩
def qD3:List VOper:=[
 ⟨some 2,.move (.c (.d (.bool false))),none,[]⟩]
def qD2:List VOper:=[
 ⟨some 3,.move (.c (.d (.int .i64 0))),none,[]⟩]
def qA6:List VOper:=[
 ⟨some 4,.move (.t 3),none,[]⟩,
 ⟨some 5,.move (.t 0),none,[]⟩,
 ⟨some 6,.len true (.t 5),none,[]⟩,
 ⟨some 7,.bin .lss (.t 4) (.t 6),none,[]⟩]
def qD0:List VOper:=[
 ⟨some 10,.move (.t 0),none,[]⟩,
 ⟨some 11,.move (.t 3),none,[]⟩,
 ⟨some 12,.index (.t 10) (.t 11),none,[]⟩,
 ⟨some 13,.bin .geq (.t 12) (.c (.d (.int .u8 97))),none,[]⟩,
 ⟨some 14,.move (.t 13),none,[]⟩,
 ⟨some 15,.move (.t 0),some (14,true),[]⟩,
 ⟨some 16,.move (.t 3),some (14,true),[]⟩,
 ⟨some 17,.index (.t 15) (.t 16),some (14,true),[]⟩,
 ⟨some 18,.bin .leq (.t 17) (.c (.d (.int .u8 122))),some (14,true),[]⟩,
 ⟨some 19,.pick (.t 14) (.t 18) (.c (.d (.bool false))),none,[]⟩,
 ⟨some 20,.move (.t 19),none,[]⟩,
 ⟨some 21,.move (.t 3),some (20,false),[]⟩,
 ⟨some 22,.bin .gtr (.t 21) (.c (.d (.int .i64 0))),some (20,false),[]⟩,
 ⟨some 23,.move (.t 22),some (20,false),[]⟩,
 ⟨some 24,.move (.t 0),some (23,true),[]⟩,
 ⟨some 25,.move (.t 3),some (23,true),[]⟩,
 ⟨some 26,.index (.t 24) (.t 25),some (23,true),[]⟩,
 ⟨some 27,.bin .geq (.t 26) (.c (.d (.int .u8 48))),some (23,true),[]⟩,
 ⟨some 28,.pick (.t 23) (.t 27) (.c (.d (.bool false))),some (20,false),[]⟩,
 ⟨some 29,.move (.t 28),some (20,false),[]⟩,
 ⟨some 30,.move (.t 0),some (29,true),[]⟩,
 ⟨some 31,.move (.t 3),some (29,true),[]⟩,
 ⟨some 32,.index (.t 30) (.t 31),some (29,true),[]⟩,
 ⟨some 33,.bin .leq (.t 32) (.c (.d (.int .u8 57))),some (29,true),[]⟩,
 ⟨some 34,.pick (.t 29) (.t 33) (.c (.d (.bool false))),some (20,false),[]⟩,
 ⟨some 35,.pick (.t 20) (.c (.d (.bool true))) (.t 34),none,[]⟩,
 ⟨some 36,.not (.t 35),none,[]⟩]
def qDZ:List VOper:=[
 ⟨some 2,.move (.c (.d (.bool false))),none,[]⟩]
def qD1:List VOper:=[
 ⟨some 8,.move (.t 3),none,[]⟩,
 ⟨some 9,.bin .add (.t 8) (.c (.d (.int .i64 1))),none,[]⟩,
 ⟨some 3,.move (.t 9),none,[]⟩]
def qv3:VCode:=(.seq (.seq (.region false 0 [0,3,7] qA6) (.cond (.t 7) .skip (.exit 0))) (.seq (.block 1 (.seq (.region false 0 [0,3,36] qD0) (.cond (.t 36) (.seq (.region false 0 [2] qDZ) .ret) .skip))) (.region false 0 [0,3] qD1)))
def qDY:List VOper:=[
 ⟨some 37,.move (.t 0),none,[]⟩,
 ⟨some 38,.len true (.t 37),none,[]⟩,
 ⟨some 39,.call true (.c (.fn 31 [])) [.t 38,.c (.d (.int .i64 1)),.c (.d (.int .i64 8))],none,[]⟩,
 ⟨some 2,.move (.t 39),none,[]⟩]
def v59:VFn:=⟨1,[.tmp 2],(.seq (.region false 0 [0] qD3) (.seq (.seq (.region false 0 [0,3] qD2) (.block 0 (.loop [0,3] qv3))) (.seq (.region false 0 [2] qDY) .ret)))⟩
def qDX:List VOper:=[
 ⟨some 2,.move (.c (.d (.bool false))),none,[]⟩]
def qDW:List VOper:=[
 ⟨some 4,.move (.t 0),none,[]⟩,
 ⟨some 5,.len true (.t 4),none,[]⟩,
 ⟨some 6,.move (.c (.d (.int .i64 0))),none,[]⟩]
def qA5:List VOper:=[
 ⟨some 7,.bin .lss (.t 6) (.t 5),none,[]⟩]
def qDV:List VOper:=[
 ⟨some 8,.move (.t 6),none,[]⟩,
 ⟨some 3,.move (.t 8),none,[]⟩]
def qDU:List VOper:=[
 ⟨some 9,.move (.t 0),none,[]⟩,
 ⟨some 10,.move (.t 3),none,[]⟩,
 ⟨some 11,.index (.t 9) (.t 10),none,[]⟩,
 ⟨some 12,.call true (.c (.fn 61 [])) [.t 11],none,[]⟩,
 ⟨some 13,.not (.t 12),none,[]⟩,
 ⟨some 14,.move (.t 13),none,[]⟩,
 ⟨some 15,.move (.t 0),some (14,true),[]⟩,
 ⟨some 16,.move (.t 3),some (14,true),[]⟩,
 ⟨some 17,.index (.t 15) (.t 16),some (14,true),[]⟩,
 ⟨some 18,.call true (.c (.fn 62 [])) [.t 17],some (14,true),[]⟩,
 ⟨some 19,.not (.t 18),some (14,true),[]⟩,
 ⟨some 20,.pick (.t 14) (.t 19) (.c (.d (.bool false))),none,[]⟩]
def qDT:List VOper:=[
 ⟨some 2,.move (.c (.d (.bool false))),none,[]⟩]
def qDS:List VOper:=[
 ⟨some 21,.bin .add (.t 6) (.c (.d (.int .i64 1))),none,[]⟩,
 ⟨some 6,.move (.t 21),none,[]⟩]
def qv2:VCode:=(.seq (.region false 0 [0,5,6,7] qA5) (.seq (.cond (.t 7) .skip (.exit 0)) (.seq (.block 1 (.seq (.region false 0 [0,3,5,6] qDV) (.seq (.region false 0 [0,5,6,20] qDU) (.cond (.t 20) (.seq (.region false 0 [2] qDT) .ret) .skip)))) (.region false 0 [0,5,6] qDS))))
def qDR:List VOper:=[
 ⟨some 22,.move (.t 0),none,[]⟩,
 ⟨some 23,.len true (.t 22),none,[]⟩,
 ⟨some 24,.call true (.c (.fn 30 [])) [.t 23,.c (.d (.int .i64 1)),.c (.d (.int .i64 8))],none,[]⟩,
 ⟨some 25,.move (.t 24),none,[]⟩,
 ⟨some 26,.move (.t 0),some (25,true),[]⟩,
 ⟨some 27,.index (.t 26) (.c (.d (.int .i64 0))),some (25,true),[]⟩,
 ⟨some 28,.call true (.c (.fn 61 [])) [.t 27],some (25,true),[]⟩,
 ⟨some 29,.pick (.t 25) (.t 28) (.c (.d (.bool false))),none,[]⟩,
 ⟨some 2,.move (.t 29),none,[]⟩]
def v60:VFn:=⟨1,[.tmp 2],(.seq (.region false 0 [0] qDX) (.seq (.seq (.region false 0 [0,5,6] qDW) (.block 0 (.loop [0,5,6] qv2))) (.seq (.region false 0 [2] qDR) .ret)))⟩
def qDQ:List VOper:=[
 ⟨some 2,.move (.c (.d (.bool false))),none,[]⟩]
def qDP:List VOper:=[
 ⟨some 3,.move (.t 0),none,[]⟩,
 ⟨some 4,.bin .geq (.t 3) (.c (.d (.int .u8 97))),none,[]⟩,
 ⟨some 5,.move (.t 4),none,[]⟩,
 ⟨some 6,.move (.t 0),some (5,true),[]⟩,
 ⟨some 7,.bin .leq (.t 6) (.c (.d (.int .u8 122))),some (5,true),[]⟩,
 ⟨some 8,.pick (.t 5) (.t 7) (.c (.d (.bool false))),none,[]⟩,
 ⟨some 2,.move (.t 8),none,[]⟩]
def v61:VFn:=⟨1,[.tmp 2],(.seq (.region false 0 [0] qDQ) (.seq (.region false 0 [2] qDP) .ret))⟩
def qDO:List VOper:=[
 ⟨some 2,.move (.c (.d (.bool false))),none,[]⟩]
def qDN:List VOper:=[
 ⟨some 3,.move (.t 0),none,[]⟩,
 ⟨some 4,.bin .geq (.t 3) (.c (.d (.int .u8 48))),none,[]⟩,
 ⟨some 5,.move (.t 4),none,[]⟩,
 ⟨some 6,.move (.t 0),some (5,true),[]⟩,
 ⟨some 7,.bin .leq (.t 6) (.c (.d (.int .u8 57))),some (5,true),[]⟩,
 ⟨some 8,.pick (.t 5) (.t 7) (.c (.d (.bool false))),none,[]⟩,
 ⟨some 2,.move (.t 8),none,[]⟩]
def v62:VFn:=⟨1,[.tmp 2],(.seq (.region false 0 [0] qDO) (.seq (.region false 0 [2] qDN) .ret))⟩
def qxP:List VOper:=[
 ⟨some 3,.box 0 (.t 1),none,[]⟩,
 ⟨some 4,.move (.c (.d (.bool false))),none,[]⟩]
def qxO:List VOper:=[
 ⟨some 5,.move (.t 0),none,[]⟩,
 ⟨some 6,.call true (.c (.fn 77 [])) [.t 5],none,[]⟩,
 ⟨some 7,.move (.t 6),none,[]⟩,
 ⟨some 8,.load true 3 (.t 3),some (7,true),[]⟩,
 ⟨some 9,.call true (.c (.fn 23 [])) [.t 8],some (7,true),[]⟩,
 ⟨some 10,.bin .leq (.t 9) (.c (.d (.int .i64 60))),some (7,true),[]⟩,
 ⟨some 11,.pick (.t 7) (.t 10) (.c (.d (.bool false))),none,[]⟩,
 ⟨some 12,.move (.t 11),none,[]⟩,
 ⟨some 13,.move (.t 0),some (12,true),[]⟩,
 ⟨some 14,.load true 3 (.t 3),some (12,true),[]⟩,
 ⟨some 15,.call true (.c (.fn 78 [])) [.t 13,.t 14],some (12,true),[]⟩,
 ⟨some 16,.pick (.t 12) (.t 15) (.c (.d (.bool false))),none,[]⟩,
 ⟨some 4,.move (.t 16),none,[]⟩]
def v70:VFn:=⟨2,[.tmp 4],(.seq (.region false 1 [0,3] qxP) (.seq (.region false 0 [4] qxO) .ret))⟩
def qDK:List VOper:=[
 ⟨some 2,.box 0 (.t 0),none,[]⟩,
 ⟨some 3,.box 1 (.t 1),none,[]⟩,
 ⟨some 4,.move (.c (.d (.int .i64 0))),none,[]⟩]
def qDJ:List VOper:=[
 ⟨some 5,.alloc 0 [.int .i64 0],none,[]⟩,
 ⟨none,.store false 1 (.t 5) (.c (.d (.int .i64 0))),none,[]⟩]
def qDI:List VOper:=[
 ⟨some 6,.load true 3 (.t 2),none,[]⟩,
 ⟨some 7,.makeFunc 74 [.t 3,.t 5],none,[]⟩,
 ⟨some 8,.call false (.c (.fn 25 [])) [.t 6,.t 7],none,[]⟩]
def qDH:List VOper:=[
 ⟨some 9,.load false 1 (.t 5),none,[]⟩,
 ⟨some 4,.move (.t 9),none,[]⟩]
def v73:VFn:=⟨2,[.tmp 4],(.seq (.region false 2 [2,3] qDK) (.seq (.region false 1 [2,3,5] qDJ) (.seq (.region false 0 [5] qDI) (.seq (.region false 0 [4] qDH) .ret))))⟩
def qxN:List VOper:=[
 ⟨some 3,.box 0 (.t 0),none,[]⟩]
def qxM:List VOper:=[
 ⟨some 4,.load true 3 (.t 3),none,[]⟩,
 ⟨some 5,.call true (.c (.fn 75 [])) [.t 4],none,[]⟩,
 ⟨some 6,.move (.t 5),none,[]⟩,
 ⟨some 7,.fieldAddr 1 (.t 3),some (6,true),[]⟩,
 ⟨some 8,.load false 1 (.t 7),some (6,true),[]⟩,
 ⟨some 9,.load false 1 (.t 1),some (6,true),[]⟩,
 ⟨some 10,.bin .eql (.t 8) (.t 9),some (6,true),[]⟩,
 ⟨some 11,.pick (.t 6) (.t 10) (.c (.d (.bool false))),none,[]⟩]
def qxL:List VOper:=[
 ⟨some 12,.load false 1 (.t 2),none,[]⟩,
 ⟨some 13,.bin .add (.t 12) (.c (.d (.int .i64 1))),none,[]⟩,
 ⟨none,.store false 1 (.t 2) (.t 13),none,[]⟩]
def v74:VFn:=⟨3,[],(.seq (.region false 1 [1,2,3] qxN) (.seq (.region false 0 [2,11] qxM) (.cond (.t 11) (.region false 0 [] qxL) .skip)))⟩
def qDG:List VOper:=[
 ⟨some 1,.box 0 (.t 0),none,[]⟩,
 ⟨some 2,.move (.c (.d (.bool false))),none,[]⟩]
def qDF:List VOper:=[
 ⟨some 3,.fieldAddr 0 (.t 1),none,[]⟩,
 ⟨some 4,.load false 1 (.t 3),none,[]⟩,
 ⟨some 5,.bin .eql (.t 4) (.c (.d (.int .i64 (-1)))),none,[]⟩,
 ⟨some 2,.move (.t 5),none,[]⟩]
def v75:VFn:=⟨1,[.tmp 2],(.seq (.region false 1 [1] qDG) (.seq (.region false 0 [2] qDF) .ret))⟩
def qgX:List VOper:=[
 ⟨some 2,.move (.c (.d (.bool false))),none,[]⟩]
def qgW:List VOper:=[
 ⟨some 5,.move (.t 0),none,[]⟩,
 ⟨some 6,.len false (.t 5),none,[]⟩,
 ⟨some 7,.move (.c (.d (.int .i64 0))),none,[]⟩]
def qgV:List VOper:=[
 ⟨some 8,.bin .lss (.t 7) (.t 6),none,[]⟩]
def qgU:List VOper:=[
 ⟨some 9,.move (.t 7),none,[]⟩,
 ⟨some 10,.indexAddr 3 none (.t 5) (.t 7),none,[]⟩,
 ⟨some 11,.load true 3 (.t 10),none,[]⟩,
 ⟨some 4,.alloc 0 [.str ⟨#[]⟩,.int .i64 0,.bool false],none,[]⟩,
 ⟨some 3,.move (.t 9),none,[]⟩,
 ⟨none,.store false 3 (.t 4) (.t 11),none,[]⟩]
def qgT:List VOper:=[
 ⟨some 12,.fieldAddr 0 (.t 4),none,[]⟩,
 ⟨some 13,.load false 1 (.t 12),none,[]⟩,
 ⟨some 14,.call true (.c (.fn 60 [])) [.t 13],none,[]⟩,
 ⟨some 15,.not (.t 14),none,[]⟩,
 ⟨some 16,.move (.t 15),none,[]⟩,
 ⟨some 17,.move (.t 0),some (16,false),[]⟩,
 ⟨some 18,.fieldAddr 0 (.t 4),some (16,false),[]⟩,
 ⟨some 19,.load false 1 (.t 18),some (16,false),[]⟩,
 ⟨some 20,.call true (.c (.fn 14 [])) [.t 17,.t 19],some (16,false),[]⟩,
 ⟨some 21,.move (.t 3),some (16,false),[]⟩,
 ⟨some 22,.bin .neq (.t 20) (.t 21),some (16,false),[]⟩,
 ⟨some 23,.pick (.t 16) (.c (.d (.bool true))) (.t 22),none,[]⟩,
 ⟨some 24,.move (.t 23),none,[]⟩,
 ⟨some 25,.fieldAddr 1 (.t 4),some (24,false),[]⟩,
 ⟨some 26,.load false 1 (.t 25),some (24,false),[]⟩,
 ⟨some 27,.call true (.c (.fn 30 [])) [.t 26,.c (.d (.int .i64 0)),.c (.d (.int .i64 3))],some (24,false),[]⟩,
 ⟨some 28,.not (.t 27),some (24,false),[]⟩,
 ⟨some 29,.pick (.t 24) (.c (.d (.bool true))) (.t 28),none,[]⟩,
 ⟨some 30,.move (.t 29),none,[]⟩,
 ⟨some 31,.fieldAddr 2 (.t 4),some (30,false),[]⟩,
 ⟨some 32,.load false 1 (.t 31),some (30,false),[]⟩,
 ⟨some 33,.move (.t 32),some (30,false),[]⟩,
 ⟨some 34,.fieldAddr 1 (.t 4),some (33,true),[]⟩,
 ⟨some 35,.load false 1 (.t 34),some (33,true),[]⟩,
 ⟨some 36,.bin .neq (.t 35) (.c (.d (.int .i64 2))),some (33,true),[]⟩,
 ⟨some 37,.pick (.t 33) (.t 36) (.c (.d (.bool false))),some (30,false),[]⟩,
 ⟨some 38,.pick (.t 30) (.c (.d (.bool true))) (.t 37),none,[]⟩]
def qgS:List VOper:=[
 ⟨some 2,.move (.c (.d (.bool false))),none,[]⟩]
def qgR:List VOper:=[
 ⟨some 39,.bin .add (.t 7) (.c (.d (.int .i64 1))),none,[]⟩,
 ⟨some 7,.move (.t 39),none,[]⟩]
def qjY:VCode:=(.seq (.region false 0 [0,5,6,7,8] qgV) (.seq (.cond (.t 8) .skip (.exit 0)) (.seq (.block 1 (.seq (.region false 1 [0,3,4,5,6,7] qgU) (.seq (.region false 0 [0,5,6,7,38] qgT) (.cond (.t 38) (.seq (.region false 0 [2] qgS) .ret) .skip)))) (.region false 0 [0,5,6,7] qgR))))
def qgQ:List VOper:=[
 ⟨some 40,.move (.t 0),none,[]⟩,
 ⟨some 41,.len false (.t 40),none,[]⟩,
 ⟨some 42,.call true (.c (.fn 30 [])) [.t 41,.c (.d (.int .i64 1)),.c (.d (.int .i64 8))],none,[]⟩,
 ⟨some 43,.move (.t 42),none,[]⟩,
 ⟨some 44,.move (.t 0),some (43,true),[]⟩,
 ⟨some 45,.indexAddr 3 none (.t 44) (.c (.d (.int .i64 0))),some (43,true),[]⟩,
 ⟨some 46,.fieldAddr 0 (.t 45),some (43,true),[]⟩,
 ⟨some 47,.load false 1 (.t 46),some (43,true),[]⟩,
 ⟨some 48,.bin .eql (.t 47) (.c (.d (.str ⟨#[116,116]⟩))),some (43,true),[]⟩,
 ⟨some 49,.pick (.t 43) (.t 48) (.c (.d (.bool false))),none,[]⟩,
 ⟨some 50,.move (.t 49),none,[]⟩,
 ⟨some 51,.move (.t 0),some (50,true),[]⟩,
 ⟨some 52,.indexAddr 3 none (.t 51) (.c (.d (.int .i64 0))),some (50,true),[]⟩,
 ⟨some 53,.fieldAddr 1 (.t 52),some (50,true),[]⟩,
 ⟨some 54,.load false 1 (.t 53),some (50,true),[]⟩,
 ⟨some 55,.bin .eql (.t 54) (.c (.d (.int .i64 0))),some (50,true),[]⟩,
 ⟨some 56,.pick (.t 50) (.t 55) (.c (.d (.bool false))),none,[]⟩,
 ⟨some 2,.move (.t 56),none,[]⟩]
def v77:VFn:=⟨1,[.tmp 2],(.seq (.region false 0 [0] qgX) (.seq (.seq (.region false 0 [0,5,6,7] qgW) (.block 0 (.loop [0,5,6,7] qjY))) (.seq (.region false 0 [2] qgQ) .ret)))⟩
def qqQ:List VOper:=[
 ⟨some 3,.box 0 (.t 1),none,[]⟩,
 ⟨some 4,.move (.c (.d (.bool false))),none,[]⟩]
def qqP:List VOper:=[
 ⟨some 7,.load true 3 (.t 3),none,[]⟩,
 ⟨some 8,.call true (.c (.fn 75 [])) [.t 7],none,[]⟩]
def qqO:List VOper:=[
 ⟨some 9,.fieldAddr 1 (.t 3),none,[]⟩,
 ⟨some 10,.load false 1 (.t 9),none,[]⟩,
 ⟨some 11,.call true (.c (.fn 30 [])) [.t 10,.c (.d (.int .i64 0)),.c (.d (.int .i64 99))],none,[]⟩,
 ⟨some 12,.move (.t 11),none,[]⟩,
 ⟨some 13,.fieldAddr 2 (.t 3),some (12,true),[]⟩,
 ⟨some 14,.load false 1 (.t 13),some (12,true),[]⟩,
 ⟨some 15,.len false (.t 14),some (12,true),[]⟩,
 ⟨some 16,.bin .eql (.t 15) (.c (.d (.int .i64 0))),some (12,true),[]⟩,
 ⟨some 17,.pick (.t 12) (.t 16) (.c (.d (.bool false))),none,[]⟩,
 ⟨some 4,.move (.t 17),none,[]⟩]
def qxK:List VOper:=[
 ⟨some 18,.move (.t 0),none,[]⟩,
 ⟨some 19,.fieldAddr 0 (.t 3),none,[]⟩,
 ⟨some 20,.load false 1 (.t 19),none,[1]⟩,
 ⟨some 21,.call true (.c (.fn 29 [])) [.t 18,.t 20],none,[0,2]⟩,
 ⟨some 22,.not (.t 21),none,[3]⟩,
 ⟨some 23,.move (.t 22),none,[3,4]⟩,
 ⟨some 24,.fieldAddr 1 (.t 3),some (23,false),[5]⟩,
 ⟨some 25,.load false 1 (.t 24),some (23,false),[5,6]⟩,
 ⟨some 26,.bin .neq (.t 25) (.c (.d (.int .i64 0))),some (23,false),[5,7]⟩,
 ⟨some 27,.pick (.t 23) (.c (.d (.bool true))) (.t 26),none,[5,8]⟩,
 ⟨some 28,.move (.t 27),none,[5,9]⟩,
 ⟨some 29,.move (.t 0),some (28,false),[10]⟩,
 ⟨some 30,.fieldAddr 0 (.t 3),some (28,false),[10]⟩,
 ⟨some 31,.load false 1 (.t 30),some (28,false),[10,12]⟩,
 ⟨some 32,.indexAddr 3 none (.t 29) (.t 31),some (28,false),[10,11,13]⟩,
 ⟨some 33,.fieldAddr 2 (.t 32),some (28,false),[10,14]⟩,
 ⟨some 34,.load false 1 (.t 33),some (28,false),[10,15]⟩,
 ⟨some 35,.not (.t 34),some (28,false),[10,16]⟩,
 ⟨some 36,.move (.t 35),some (28,false),[10,17]⟩,
 ⟨some 37,.fieldAddr 2 (.t 3),some (36,true),[18]⟩,
 ⟨some 38,.load false 1 (.t 37),some (36,true),[18,19]⟩,
 ⟨some 39,.len false (.t 38),some (36,true),[18,20]⟩,
 ⟨some 40,.move (.t 0),some (36,true),[18]⟩,
 ⟨some 41,.fieldAddr 0 (.t 3),some (36,true),[18]⟩,
 ⟨some 42,.load false 1 (.t 41),some (36,true),[18,23]⟩,
 ⟨some 43,.indexAddr 3 none (.t 40) (.t 42),some (36,true),[18,22,24]⟩,
 ⟨some 44,.fieldAddr 1 (.t 43),some (36,true),[18,25]⟩,
 ⟨some 45,.load false 1 (.t 44),some (36,true),[18,26]⟩,
 ⟨some 46,.bin .neq (.t 39) (.t 45),some (36,true),[18,21,27]⟩,
 ⟨some 47,.pick (.t 36) (.t 46) (.c (.d (.bool false))),some (28,false),[10,18,28]⟩,
 ⟨some 48,.pick (.t 28) (.c (.d (.bool true))) (.t 47),none,[10,29]⟩,
 ⟨some 49,.move (.t 48),none,[18,30]⟩,
 ⟨some 50,.move (.t 0),some (49,false),[31]⟩,
 ⟨some 51,.fieldAddr 0 (.t 3),some (49,false),[31]⟩,
 ⟨some 52,.load false 1 (.t 51),some (49,false),[31,33]⟩,
 ⟨some 53,.indexAddr 3 none (.t 50) (.t 52),some (49,false),[31,32,34]⟩,
 ⟨some 54,.fieldAddr 2 (.t 53),some (49,false),[31,35]⟩,
 ⟨some 55,.load false 1 (.t 54),some (49,false),[31,36]⟩,
 ⟨some 56,.move (.t 55),some (49,false),[31,37]⟩,
 ⟨some 57,.fieldAddr 2 (.t 3),some (56,true),[38]⟩,
 ⟨some 58,.load false 1 (.t 57),some (56,true),[38,39]⟩,
 ⟨some 59,.len false (.t 58),some (56,true),[38,40]⟩,
 ⟨some 60,.bin .lss (.t 59) (.c (.d (.int .i64 2))),some (56,true),[38,41]⟩,
 ⟨some 61,.pick (.t 56) (.t 60) (.c (.d (.bool false))),some (49,false),[31,38,42]⟩,
 ⟨some 62,.pick (.t 49) (.c (.d (.bool true))) (.t 61),none,[31,43]⟩]
def qAZ:List VOper:=[
 ⟨some 4,.move (.c (.d (.bool false))),none,[]⟩]
def qDE:List VOper:=[
 ⟨some 63,.fieldAddr 2 (.t 3),none,[]⟩,
 ⟨some 64,.load false 1 (.t 63),none,[]⟩,
 ⟨some 65,.len false (.t 64),none,[]⟩,
 ⟨some 66,.move (.c (.d (.int .i64 0))),none,[]⟩]
def qxJ:List VOper:=[
 ⟨some 67,.bin .lss (.t 66) (.t 65),none,[]⟩]
def qAY:List VOper:=[
 ⟨some 68,.move (.t 66),none,[]⟩,
 ⟨some 69,.indexAddr 3 none (.t 64) (.t 66),none,[]⟩,
 ⟨some 70,.load true 3 (.t 69),none,[]⟩,
 ⟨some 6,.alloc 0 [.int .i64 0,.int .i64 0,.sl .nil []],none,[]⟩,
 ⟨some 5,.move (.t 68),none,[]⟩,
 ⟨none,.store false 3 (.t 6) (.t 70),none,[]⟩]
def qxI:List VOper:=[
 ⟨some 71,.move (.t 0),none,[]⟩,
 ⟨some 72,.load true 3 (.t 6),none,[]⟩,
 ⟨some 73,.call true (.c (.fn 78 [])) [.t 71,.t 72],none,[0,1]⟩,
 ⟨some 74,.not (.t 73),none,[2]⟩,
 ⟨some 75,.move (.t 74),none,[2,3]⟩,
 ⟨some 76,.move (.t 0),some (75,false),[4]⟩,
 ⟨some 77,.fieldAddr 0 (.t 3),some (75,false),[4]⟩,
 ⟨some 78,.load false 1 (.t 77),some (75,false),[4,6]⟩,
 ⟨some 79,.indexAddr 3 none (.t 76) (.t 78),some (75,false),[4,5,7]⟩,
 ⟨some 80,.fieldAddr 2 (.t 79),some (75,false),[4,8]⟩,
 ⟨some 81,.load false 1 (.t 80),some (75,false),[4,9]⟩,
 ⟨some 82,.move (.t 81),some (75,false),[4,10]⟩,
 ⟨some 83,.fieldAddr 0 (.t 6),some (82,true),[11]⟩,
 ⟨some 84,.load false 1 (.t 83),some (82,true),[11,12]⟩,
 ⟨some 85,.fieldAddr 0 (.t 3),some (82,true),[11]⟩,
 ⟨some 86,.load false 1 (.t 85),some (82,true),[11,14]⟩,
 ⟨some 87,.bin .eql (.t 84) (.t 86),some (82,true),[11,13,15]⟩,
 ⟨some 88,.move (.t 87),some (82,true),[11,16]⟩,
 ⟨some 89,.move (.t 5),some (88,false),[17]⟩,
 ⟨some 90,.bin .gtr (.t 89) (.c (.d (.int .i64 0))),some (88,false),[17,18]⟩,
 ⟨some 91,.move (.t 90),some (88,false),[17,19]⟩,
 ⟨some 92,.load true 3 (.t 6),some (91,true),[20]⟩,
 ⟨some 93,.fieldAddr 2 (.t 3),some (91,true),[20]⟩,
 ⟨some 94,.load false 1 (.t 93),some (91,true),[20,22]⟩,
 ⟨some 95,.move (.t 5),some (91,true),[20]⟩,
 ⟨some 96,.bin .sub (.t 95) (.c (.d (.int .i64 1))),some (91,true),[20,24]⟩,
 ⟨some 97,.indexAddr 3 none (.t 94) (.t 96),some (91,true),[20,23,25]⟩,
 ⟨some 98,.load true 3 (.t 97),some (91,true),[20,26]⟩,
 ⟨some 99,.call true (.c (.fn 79 [])) [.t 92,.t 98],some (91,true),[20,21,27]⟩,
 ⟨some 100,.pick (.t 91) (.t 99) (.c (.d (.bool false))),some (88,false),[17,20,28]⟩,
 ⟨some 101,.pick (.t 88) (.c (.d (.bool true))) (.t 100),some (82,true),[11,17,29]⟩,
 ⟨some 102,.pick (.t 82) (.t 101) (.c (.d (.bool false))),some (75,false),[4,11,30]⟩,
 ⟨some 103,.pick (.t 75) (.c (.d (.bool true))) (.t 102),none,[4,31]⟩]
def qAX:List VOper:=[
 ⟨some 4,.move (.c (.d (.bool false))),none,[]⟩]
def qtP:List VOper:=[
 ⟨some 104,.bin .add (.t 66) (.c (.d (.int .i64 1))),none,[]⟩,
 ⟨some 66,.move (.t 104),none,[]⟩]
def qv1:VCode:=(.seq (.region false 0 [0,3,64,65,66,67] qxJ) (.seq (.cond (.t 67) .skip (.exit 0)) (.seq (.block 1 (.seq (.region false 1 [0,3,5,6,64,65,66] qAY) (.seq (.region true 0 [0,3,64,65,66,103] qxI) (.cond (.t 103) (.seq (.region false 0 [4] qAX) .ret) .skip)))) (.region false 0 [0,3,64,65,66] qtP))))
def qyS:List VOper:=[
 ⟨some 4,.move (.c (.d (.bool true))),none,[]⟩]
def v78:VFn:=⟨2,[.tmp 4],(.seq (.region false 1 [0,3] qqQ) (.seq (.seq (.region false 0 [0,3,8] qqP) (.cond (.t 8) (.seq (.region false 0 [4] qqO) .ret) .skip)) (.seq (.seq (.region true 0 [0,3,62] qxK) (.cond (.t 62) (.seq (.region false 0 [4] qAZ) .ret) .skip)) (.seq (.seq (.region false 0 [0,3,64,65,66] qDE) (.block 0 (.loop [0,3,64,65,66] qv1))) (.seq (.region false 0 [4] qyS) .ret)))))⟩
def qDD:List VOper:=[
 ⟨some 2,.box 0 (.t 0),none,[]⟩,
 ⟨some 3,.box 1 (.t 1),none,[]⟩,
 ⟨some 4,.move (.c (.d (.bool false))),none,[]⟩]
def qDC:List VOper:=[
 ⟨some 5,.load true 3 (.t 2),none,[]⟩,
 ⟨some 6,.load true 3 (.t 3),none,[]⟩,
 ⟨some 7,.call true (.c (.fn 6 [])) [.t 5,.t 6],none,[]⟩,
 ⟨some 8,.bin .lss (.t 7) (.c (.d (.int .i64 0))),none,[]⟩,
 ⟨some 4,.move (.t 8),none,[]⟩]
def v79:VFn:=⟨2,[.tmp 4],(.seq (.region false 2 [2,3] qDD) (.seq (.region false 0 [4] qDC) .ret))⟩
def qxH:List VOper:=[
 ⟨some 3,.box 0 (.t 1),none,[]⟩,
 ⟨some 4,.move (.c (.d (.bool false))),none,[]⟩]
def qxG:List VOper:=[
 ⟨some 5,.move (.t 0),none,[]⟩,
 ⟨some 6,.call true (.c (.fn 82 [])) [.t 5],none,[]⟩,
 ⟨some 7,.move (.t 6),none,[]⟩,
 ⟨some 8,.load true 3 (.t 3),some (7,true),[]⟩,
 ⟨some 9,.call true (.c (.fn 22 [])) [.t 8],some (7,true),[]⟩,
 ⟨some 10,.bin .leq (.t 9) (.c (.d (.int .i64 60))),some (7,true),[]⟩,
 ⟨some 11,.pick (.t 7) (.t 10) (.c (.d (.bool false))),none,[]⟩,
 ⟨some 12,.move (.t 11),none,[]⟩,
 ⟨some 13,.move (.t 0),some (12,true),[]⟩,
 ⟨some 14,.load true 3 (.t 3),some (12,true),[]⟩,
 ⟨some 15,.call true (.c (.fn 83 [])) [.t 13,.t 14],some (12,true),[]⟩,
 ⟨some 16,.pick (.t 12) (.t 15) (.c (.d (.bool false))),none,[]⟩,
 ⟨some 4,.move (.t 16),none,[]⟩]
def v80:VFn:=⟨2,[.tmp 4],(.seq (.region false 1 [0,3] qxH) (.seq (.region false 0 [4] qxG) .ret))⟩
def qlj:List VOper:=[
 ⟨some 2,.box 0 (.t 0),none,[]⟩,
 ⟨some 4,.move (.c (.d (.int .i64 0))),none,[]⟩]
def qli:List VOper:=[
 ⟨some 7,.fieldAddr 0 (.t 2),none,[]⟩,
 ⟨some 8,.load false 1 (.t 7),none,[]⟩,
 ⟨some 9,.bin .eql (.t 8) (.c (.d (.int .i64 (-1)))),none,[]⟩,
 ⟨some 10,.move (.t 9),none,[]⟩,
 ⟨some 11,.fieldAddr 1 (.t 2),some (10,true),[]⟩,
 ⟨some 12,.load false 1 (.t 11),some (10,true),[]⟩,
 ⟨some 13,.move (.t 1),some (10,true),[]⟩,
 ⟨some 14,.bin .eql (.t 12) (.t 13),some (10,true),[]⟩,
 ⟨some 15,.pick (.t 10) (.t 14) (.c (.d (.bool false))),none,[]⟩,
 ⟨some 16,.call true (.c (.fn 85 [])) [.t 15],none,[]⟩,
 ⟨some 5,.move (.t 16),none,[]⟩]
def qlh:List VOper:=[
 ⟨some 6,.move (.c (.d (.int .i64 0))),none,[]⟩]
def qlg:List VOper:=[
 ⟨some 17,.move (.t 6),none,[]⟩,
 ⟨some 18,.fieldAddr 2 (.t 2),none,[]⟩,
 ⟨some 19,.load false 1 (.t 18),none,[]⟩,
 ⟨some 20,.len false (.t 19),none,[]⟩,
 ⟨some 21,.bin .lss (.t 17) (.t 20),none,[]⟩]
def qle:List VOper:=[
 ⟨some 24,.move (.t 5),none,[]⟩,
 ⟨some 25,.fieldAddr 2 (.t 2),none,[]⟩,
 ⟨some 26,.load false 1 (.t 25),none,[]⟩,
 ⟨some 27,.move (.t 6),none,[]⟩,
 ⟨some 28,.indexAddr 3 none (.t 26) (.t 27),none,[]⟩,
 ⟨some 29,.load true 3 (.t 28),none,[]⟩,
 ⟨some 30,.move (.t 1),none,[]⟩,
 ⟨some 31,.call true (.c (.fn 81 [])) [.t 29,.t 30],none,[]⟩,
 ⟨some 32,.bin .add (.t 24) (.t 31),none,[]⟩,
 ⟨some 5,.move (.t 32),none,[]⟩]
def qlf:List VOper:=[
 ⟨some 22,.move (.t 6),none,[]⟩,
 ⟨some 23,.bin .add (.t 22) (.c (.d (.int .i64 1))),none,[]⟩,
 ⟨some 6,.move (.t 23),none,[]⟩]
def qyA:VCode:=(.seq (.seq (.region false 0 [1,2,5,6,21] qlg) (.cond (.t 21) .skip (.exit 0))) (.seq (.block 1 (.region false 0 [1,2,5,6] qle)) (.region false 0 [1,2,5,6] qlf)))
def qld:List VOper:=[
 ⟨some 33,.move (.t 5),none,[]⟩,
 ⟨some 4,.move (.t 33),none,[]⟩]
def v81:VFn:=⟨2,[.tmp 4],(.seq (.region false 1 [1,2] qlj) (.seq (.region false 0 [1,2,5] qli) (.seq (.seq (.region false 0 [1,2,5,6] qlh) (.block 0 (.loop [1,2,5,6] qyA))) (.seq (.region false 0 [4] qld) .ret))))⟩
def qiL:List VOper:=[
 ⟨some 2,.move (.c (.d (.bool false))),none,[]⟩]
def qiK:List VOper:=[
 ⟨some 3,.move (.c (.d (.int .i64 0))),none,[]⟩]
def qiJ:List VOper:=[
 ⟨some 4,.move (.t 3),none,[]⟩,
 ⟨some 5,.move (.t 0),none,[]⟩,
 ⟨some 6,.len false (.t 5),none,[]⟩,
 ⟨some 7,.bin .lss (.t 4) (.t 6),none,[]⟩]
def qiH:List VOper:=[
 ⟨some 10,.move (.t 0),none,[]⟩,
 ⟨some 11,.move (.t 3),none,[]⟩,
 ⟨some 12,.indexAddr 3 none (.t 10) (.t 11),none,[]⟩,
 ⟨some 13,.fieldAddr 0 (.t 12),none,[]⟩,
 ⟨some 14,.load false 1 (.t 13),none,[]⟩,
 ⟨some 15,.call true (.c (.fn 59 [])) [.t 14],none,[]⟩,
 ⟨some 16,.not (.t 15),none,[]⟩,
 ⟨some 17,.move (.t 16),none,[]⟩,
 ⟨some 18,.move (.t 0),some (17,false),[]⟩,
 ⟨some 19,.move (.t 0),some (17,false),[]⟩,
 ⟨some 20,.move (.t 3),some (17,false),[]⟩,
 ⟨some 21,.indexAddr 3 none (.t 19) (.t 20),some (17,false),[]⟩,
 ⟨some 22,.fieldAddr 0 (.t 21),some (17,false),[]⟩,
 ⟨some 23,.load false 1 (.t 22),some (17,false),[]⟩,
 ⟨some 24,.call true (.c (.fn 13 [])) [.t 18,.t 23],some (17,false),[]⟩,
 ⟨some 25,.move (.t 3),some (17,false),[]⟩,
 ⟨some 26,.bin .neq (.t 24) (.t 25),some (17,false),[]⟩,
 ⟨some 27,.pick (.t 17) (.c (.d (.bool true))) (.t 26),none,[]⟩,
 ⟨some 28,.move (.t 27),none,[]⟩,
 ⟨some 29,.move (.t 0),some (28,false),[]⟩,
 ⟨some 30,.move (.t 3),some (28,false),[]⟩,
 ⟨some 31,.indexAddr 3 none (.t 29) (.t 30),some (28,false),[]⟩,
 ⟨some 32,.fieldAddr 1 (.t 31),some (28,false),[]⟩,
 ⟨some 33,.load false 1 (.t 32),some (28,false),[]⟩,
 ⟨some 34,.call true (.c (.fn 31 [])) [.t 33,.c (.d (.int .i64 0)),.c (.d (.int .i64 3))],some (28,false),[]⟩,
 ⟨some 35,.not (.t 34),some (28,false),[]⟩,
 ⟨some 36,.pick (.t 28) (.c (.d (.bool true))) (.t 35),none,[]⟩,
 ⟨some 37,.move (.t 36),none,[]⟩,
 ⟨some 38,.move (.t 0),some (37,false),[]⟩,
 ⟨some 39,.move (.t 3),some (37,false),[]⟩,
 ⟨some 40,.indexAddr 3 none (.t 38) (.t 39),some (37,false),[]⟩,
 ⟨some 41,.fieldAddr 2 (.t 40),some (37,false),[]⟩,
 ⟨some 42,.load false 1 (.t 41),some (37,false),[]⟩,
 ⟨some 43,.move (.t 42),some (37,false),[]⟩,
 ⟨some 44,.move (.t 0),some (43,true),[]⟩,
 ⟨some 45,.move (.t 3),some (43,true),[]⟩,
 ⟨some 46,.indexAddr 3 none (.t 44) (.t 45),some (43,true),[]⟩,
 ⟨some 47,.fieldAddr 1 (.t 46),some (43,true),[]⟩,
 ⟨some 48,.load false 1 (.t 47),some (43,true),[]⟩,
 ⟨some 49,.bin .neq (.t 48) (.c (.d (.int .i64 2))),some (43,true),[]⟩,
 ⟨some 50,.pick (.t 43) (.t 49) (.c (.d (.bool false))),some (37,false),[]⟩,
 ⟨some 51,.pick (.t 37) (.c (.d (.bool true))) (.t 50),none,[]⟩]
def qiG:List VOper:=[
 ⟨some 2,.move (.c (.d (.bool false))),none,[]⟩]
def qiI:List VOper:=[
 ⟨some 8,.move (.t 3),none,[]⟩,
 ⟨some 9,.bin .add (.t 8) (.c (.d (.int .i64 1))),none,[]⟩,
 ⟨some 3,.move (.t 9),none,[]⟩]
def qlT:VCode:=(.seq (.seq (.region false 0 [0,3,7] qiJ) (.cond (.t 7) .skip (.exit 0))) (.seq (.block 1 (.seq (.region false 0 [0,3,51] qiH) (.cond (.t 51) (.seq (.region false 0 [2] qiG) .ret) .skip))) (.region false 0 [0,3] qiI)))
def qiF:List VOper:=[
 ⟨some 52,.move (.t 0),none,[]⟩,
 ⟨some 53,.len false (.t 52),none,[]⟩,
 ⟨some 54,.call true (.c (.fn 31 [])) [.t 53,.c (.d (.int .i64 1)),.c (.d (.int .i64 8))],none,[]⟩,
 ⟨some 55,.move (.t 54),none,[]⟩,
 ⟨some 56,.move (.t 0),some (55,true),[]⟩,
 ⟨some 57,.indexAddr 3 none (.t 56) (.c (.d (.int .i64 0))),some (55,true),[]⟩,
 ⟨some 58,.load true 3 (.t 57),some (55,true),[]⟩,
 ⟨some 59,.build [.str ⟨#[]⟩,.int .i64 0,.bool false] [(0,1,.c (.d (.str ⟨#[116,116]⟩)))],some (55,true),[]⟩,
 ⟨some 60,.eqAgg false [2,0,1] (.t 58) (.t 59),some (55,true),[]⟩,
 ⟨some 61,.pick (.t 55) (.t 60) (.c (.d (.bool false))),none,[]⟩,
 ⟨some 2,.move (.t 61),none,[]⟩]
def v82:VFn:=⟨1,[.tmp 2],(.seq (.region false 0 [0] qiL) (.seq (.seq (.region false 0 [0,3] qiK) (.block 0 (.loop [0,3] qlT))) (.seq (.region false 0 [2] qiF) .ret)))⟩
def qqN:List VOper:=[
 ⟨some 3,.box 0 (.t 1),none,[]⟩,
 ⟨some 4,.move (.c (.d (.bool false))),none,[]⟩]
def qqM:List VOper:=[
 ⟨some 6,.fieldAddr 0 (.t 3),none,[]⟩,
 ⟨some 7,.load false 1 (.t 6),none,[]⟩,
 ⟨some 8,.bin .eql (.t 7) (.c (.d (.int .i64 (-1)))),none,[]⟩]
def qqL:List VOper:=[
 ⟨some 9,.fieldAddr 1 (.t 3),none,[]⟩,
 ⟨some 10,.load false 1 (.t 9),none,[]⟩,
 ⟨some 11,.call true (.c (.fn 31 [])) [.t 10,.c (.d (.int .i64 0)),.c (.d (.int .i64 99))],none,[]⟩,
 ⟨some 12,.move (.t 11),none,[]⟩,
 ⟨some 13,.fieldAddr 2 (.t 3),some (12,true),[]⟩,
 ⟨some 14,.load false 1 (.t 13),some (12,true),[]⟩,
 ⟨some 15,.len false (.t 14),some (12,true),[]⟩,
 ⟨some 16,.bin .eql (.t 15) (.c (.d (.int .i64 0))),some (12,true),[]⟩,
 ⟨some 17,.pick (.t 12) (.t 16) (.c (.d (.bool false))),none,[]⟩,
 ⟨some 4,.move (.t 17),none,[]⟩]
def qxF:List VOper:=[
 ⟨some 18,.fieldAddr 0 (.t 3),none,[]⟩,
 ⟨some 19,.load false 1 (.t 18),none,[0]⟩,
 ⟨some 20,.move (.t 0),none,[]⟩,
 ⟨some 21,.len false (.t 20),none,[2]⟩,
 ⟨some 22,.bin .sub (.t 21) (.c (.d (.int .i64 1))),none,[3]⟩,
 ⟨some 23,.call true (.c (.fn 31 [])) [.t 19,.c (.d (.int .i64 0)),.t 22],none,[1,4]⟩,
 ⟨some 24,.not (.t 23),none,[5]⟩,
 ⟨some 25,.move (.t 24),none,[5,6]⟩,
 ⟨some 26,.fieldAddr 1 (.t 3),some (25,false),[7]⟩,
 ⟨some 27,.load false 1 (.t 26),some (25,false),[7,8]⟩,
 ⟨some 28,.bin .neq (.t 27) (.c (.d (.int .i64 0))),some (25,false),[7,9]⟩,
 ⟨some 29,.pick (.t 25) (.c (.d (.bool true))) (.t 28),none,[7,10]⟩,
 ⟨some 30,.move (.t 29),none,[7,11]⟩,
 ⟨some 31,.move (.t 0),some (30,false),[12]⟩,
 ⟨some 32,.fieldAddr 0 (.t 3),some (30,false),[12]⟩,
 ⟨some 33,.load false 1 (.t 32),some (30,false),[12,14]⟩,
 ⟨some 34,.indexAddr 3 none (.t 31) (.t 33),some (30,false),[12,13,15]⟩,
 ⟨some 35,.fieldAddr 2 (.t 34),some (30,false),[12,16]⟩,
 ⟨some 36,.load false 1 (.t 35),some (30,false),[12,17]⟩,
 ⟨some 37,.not (.t 36),some (30,false),[12,18]⟩,
 ⟨some 38,.move (.t 37),some (30,false),[12,19]⟩,
 ⟨some 39,.fieldAddr 2 (.t 3),some (38,true),[20]⟩,
 ⟨some 40,.load false 1 (.t 39),some (38,true),[20,21]⟩,
 ⟨some 41,.len false (.t 40),some (38,true),[20,22]⟩,
 ⟨some 42,.move (.t 0),some (38,true),[20]⟩,
 ⟨some 43,.fieldAddr 0 (.t 3),some (38,true),[20]⟩,
 ⟨some 44,.load false 1 (.t 43),some (38,true),[20,25]⟩,
 ⟨some 45,.indexAddr 3 none (.t 42) (.t 44),some (38,true),[20,24,26]⟩,
 ⟨some 46,.fieldAddr 1 (.t 45),some (38,true),[20,27]⟩,
 ⟨some 47,.load false 1 (.t 46),some (38,true),[20,28]⟩,
 ⟨some 48,.bin .neq (.t 41) (.t 47),some (38,true),[20,23,29]⟩,
 ⟨some 49,.pick (.t 38) (.t 48) (.c (.d (.bool false))),some (30,false),[12,20,30]⟩,
 ⟨some 50,.pick (.t 30) (.c (.d (.bool true))) (.t 49),none,[12,31]⟩,
 ⟨some 51,.move (.t 50),none,[20,32]⟩,
 ⟨some 52,.move (.t 0),some (51,false),[33]⟩,
 ⟨some 53,.fieldAddr 0 (.t 3),some (51,false),[33]⟩,
 ⟨some 54,.load false 1 (.t 53),some (51,false),[33,35]⟩,
 ⟨some 55,.indexAddr 3 none (.t 52) (.t 54),some (51,false),[33,34,36]⟩,
 ⟨some 56,.fieldAddr 2 (.t 55),some (51,false),[33,37]⟩,
 ⟨some 57,.load false 1 (.t 56),some (51,false),[33,38]⟩,
 ⟨some 58,.move (.t 57),some (51,false),[33,39]⟩,
 ⟨some 59,.fieldAddr 2 (.t 3),some (58,true),[40]⟩,
 ⟨some 60,.load false 1 (.t 59),some (58,true),[40,41]⟩,
 ⟨some 61,.len false (.t 60),some (58,true),[40,42]⟩,
 ⟨some 62,.bin .lss (.t 61) (.c (.d (.int .i64 2))),some (58,true),[40,43]⟩,
 ⟨some 63,.pick (.t 58) (.t 62) (.c (.d (.bool false))),some (51,false),[33,40,44]⟩,
 ⟨some 64,.pick (.t 51) (.c (.d (.bool true))) (.t 63),none,[33,45]⟩]
def qAW:List VOper:=[
 ⟨some 4,.move (.c (.d (.bool false))),none,[]⟩]
def qDB:List VOper:=[
 ⟨some 5,.move (.c (.d (.int .i64 0))),none,[]⟩]
def qxE:List VOper:=[
 ⟨some 65,.move (.t 5),none,[]⟩,
 ⟨some 66,.fieldAddr 2 (.t 3),none,[]⟩,
 ⟨some 67,.load false 1 (.t 66),none,[]⟩,
 ⟨some 68,.len false (.t 67),none,[]⟩,
 ⟨some 69,.bin .lss (.t 65) (.t 68),none,[]⟩]
def qxD:List VOper:=[
 ⟨some 72,.move (.t 0),none,[]⟩,
 ⟨some 73,.fieldAddr 0 (.t 3),none,[]⟩,
 ⟨some 74,.load false 1 (.t 73),none,[1]⟩,
 ⟨some 75,.indexAddr 3 none (.t 72) (.t 74),none,[0,2]⟩,
 ⟨some 76,.fieldAddr 2 (.t 75),none,[3]⟩,
 ⟨some 77,.load false 1 (.t 76),none,[4]⟩,
 ⟨some 78,.move (.t 77),none,[5]⟩,
 ⟨some 79,.fieldAddr 2 (.t 3),some (78,true),[6]⟩,
 ⟨some 80,.load false 1 (.t 79),some (78,true),[6,7]⟩,
 ⟨some 81,.move (.t 5),some (78,true),[6]⟩,
 ⟨some 82,.indexAddr 3 none (.t 80) (.t 81),some (78,true),[6,8,9]⟩,
 ⟨some 83,.fieldAddr 0 (.t 82),some (78,true),[6,10]⟩,
 ⟨some 84,.load false 1 (.t 83),some (78,true),[6,11]⟩,
 ⟨some 85,.fieldAddr 0 (.t 3),some (78,true),[6]⟩,
 ⟨some 86,.load false 1 (.t 85),some (78,true),[6,13]⟩,
 ⟨some 87,.bin .eql (.t 84) (.t 86),some (78,true),[6,12,14]⟩,
 ⟨some 88,.move (.t 87),some (78,true),[6,15]⟩,
 ⟨some 89,.move (.t 5),some (88,false),[16]⟩,
 ⟨some 90,.bin .gtr (.t 89) (.c (.d (.int .i64 0))),some (88,false),[16,17]⟩,
 ⟨some 91,.move (.t 90),some (88,false),[16,18]⟩,
 ⟨some 92,.fieldAddr 2 (.t 3),some (91,true),[19]⟩,
 ⟨some 93,.load false 1 (.t 92),some (91,true),[19,20]⟩,
 ⟨some 94,.move (.t 5),some (91,true),[19]⟩,
 ⟨some 95,.indexAddr 3 none (.t 93) (.t 94),some (91,true),[19,21,22]⟩,
 ⟨some 96,.load true 3 (.t 95),some (91,true),[19,23]⟩,
 ⟨some 97,.fieldAddr 2 (.t 3),some (91,true),[19]⟩,
 ⟨some 98,.load false 1 (.t 97),some (91,true),[19,25]⟩,
 ⟨some 99,.move (.t 5),some (91,true),[19]⟩,
 ⟨some 100,.bin .sub (.t 99) (.c (.d (.int .i64 1))),some (91,true),[19,27]⟩,
 ⟨some 101,.indexAddr 3 none (.t 98) (.t 100),some (91,true),[19,26,28]⟩,
 ⟨some 102,.load true 3 (.t 101),some (91,true),[19,29]⟩,
 ⟨some 103,.call true (.c (.fn 84 [])) [.t 96,.t 102],some (91,true),[19,24,30]⟩,
 ⟨some 104,.pick (.t 91) (.t 103) (.c (.d (.bool false))),some (88,false),[16,19,31]⟩,
 ⟨some 105,.pick (.t 88) (.c (.d (.bool true))) (.t 104),some (78,true),[6,16,32]⟩,
 ⟨some 106,.pick (.t 78) (.t 105) (.c (.d (.bool false))),none,[6,33]⟩,
 ⟨some 107,.move (.t 106),none,[31,34]⟩,
 ⟨some 108,.move (.t 0),some (107,false),[35]⟩,
 ⟨some 109,.fieldAddr 2 (.t 3),some (107,false),[35]⟩,
 ⟨some 110,.load false 1 (.t 109),some (107,false),[35,37]⟩,
 ⟨some 111,.move (.t 5),some (107,false),[35]⟩,
 ⟨some 112,.indexAddr 3 none (.t 110) (.t 111),some (107,false),[35,38,39]⟩,
 ⟨some 113,.load true 3 (.t 112),some (107,false),[35,40]⟩,
 ⟨some 114,.call true (.c (.fn 83 [])) [.t 108,.t 113],some (107,false),[35,36,41]⟩,
 ⟨some 115,.not (.t 114),some (107,false),[35,42]⟩,
 ⟨some 116,.pick (.t 107) (.c (.d (.bool true))) (.t 115),none,[35,43]⟩]
def qAU:List VOper:=[
 ⟨some 4,.move (.c (.d (.bool false))),none,[]⟩]
def qAV:List VOper:=[
 ⟨some 70,.move (.t 5),none,[]⟩,
 ⟨some 71,.bin .add (.t 70) (.c (.d (.int .i64 1))),none,[]⟩,
 ⟨some 5,.move (.t 71),none,[]⟩]
def qv0:VCode:=(.seq (.seq (.region false 0 [0,3,5,69] qxE) (.cond (.t 69) .skip (.exit 0))) (.seq (.block 1 (.seq (.region true 0 [0,3,5,116] qxD) (.cond (.t 116) (.seq (.region false 0 [4] qAU) .ret) .skip))) (.region false 0 [0,3,5] qAV)))
def qyR:List VOper:=[
 ⟨some 4,.move (.c (.d (.bool true))),none,[]⟩]
def v83:VFn:=⟨2,[.tmp 4],(.seq (.region false 1 [0,3] qqN) (.seq (.seq (.region false 0 [0,3,8] qqM) (.cond (.t 8) (.seq (.region false 0 [4] qqL) .ret) .skip)) (.seq (.seq (.region true 0 [0,3,64] qxF) (.cond (.t 64) (.seq (.region false 0 [4] qAW) .ret) .skip)) (.seq (.seq (.region false 0 [0,3,5] qDB) (.block 0 (.loop [0,3,5] qv0))) (.seq (.region false 0 [4] qyR) .ret)))))⟩
def qlc:List VOper:=[
 ⟨some 2,.box 0 (.t 0),none,[]⟩,
 ⟨some 3,.box 1 (.t 1),none,[]⟩,
 ⟨some 4,.move (.c (.d (.bool false))),none,[]⟩]
def qlb:List VOper:=[
 ⟨some 6,.fieldAddr 0 (.t 2),none,[]⟩,
 ⟨some 7,.load false 1 (.t 6),none,[]⟩,
 ⟨some 8,.fieldAddr 0 (.t 3),none,[]⟩,
 ⟨some 9,.load false 1 (.t 8),none,[]⟩,
 ⟨some 10,.bin .neq (.t 7) (.t 9),none,[]⟩]
def qla:List VOper:=[
 ⟨some 11,.fieldAddr 0 (.t 2),none,[]⟩,
 ⟨some 12,.load false 1 (.t 11),none,[]⟩,
 ⟨some 13,.fieldAddr 0 (.t 3),none,[]⟩,
 ⟨some 14,.load false 1 (.t 13),none,[]⟩,
 ⟨some 15,.bin .lss (.t 12) (.t 14),none,[]⟩,
 ⟨some 4,.move (.t 15),none,[]⟩]
def qk9:List VOper:=[
 ⟨some 16,.fieldAddr 1 (.t 2),none,[]⟩,
 ⟨some 17,.load false 1 (.t 16),none,[]⟩,
 ⟨some 18,.fieldAddr 1 (.t 3),none,[]⟩,
 ⟨some 19,.load false 1 (.t 18),none,[]⟩,
 ⟨some 20,.bin .neq (.t 17) (.t 19),none,[]⟩]
def qk8:List VOper:=[
 ⟨some 21,.fieldAddr 1 (.t 2),none,[]⟩,
 ⟨some 22,.load false 1 (.t 21),none,[]⟩,
 ⟨some 23,.fieldAddr 1 (.t 3),none,[]⟩,
 ⟨some 24,.load false 1 (.t 23),none,[]⟩,
 ⟨some 25,.bin .lss (.t 22) (.t 24),none,[]⟩,
 ⟨some 4,.move (.t 25),none,[]⟩]
def qk7:List VOper:=[
 ⟨some 26,.fieldAddr 2 (.t 2),none,[]⟩,
 ⟨some 27,.load false 1 (.t 26),none,[]⟩,
 ⟨some 28,.len false (.t 27),none,[]⟩,
 ⟨some 29,.fieldAddr 2 (.t 3),none,[]⟩,
 ⟨some 30,.load false 1 (.t 29),none,[]⟩,
 ⟨some 31,.len false (.t 30),none,[]⟩,
 ⟨some 32,.bin .neq (.t 28) (.t 31),none,[]⟩]
def qk6:List VOper:=[
 ⟨some 33,.fieldAddr 2 (.t 2),none,[]⟩,
 ⟨some 34,.load false 1 (.t 33),none,[]⟩,
 ⟨some 35,.len false (.t 34),none,[]⟩,
 ⟨some 36,.fieldAddr 2 (.t 3),none,[]⟩,
 ⟨some 37,.load false 1 (.t 36),none,[]⟩,
 ⟨some 38,.len false (.t 37),none,[]⟩,
 ⟨some 39,.bin .lss (.t 35) (.t 38),none,[]⟩,
 ⟨some 4,.move (.t 39),none,[]⟩]
def qk5:List VOper:=[
 ⟨some 5,.move (.c (.d (.int .i64 0))),none,[]⟩]
def qk4:List VOper:=[
 ⟨some 40,.move (.t 5),none,[]⟩,
 ⟨some 41,.fieldAddr 2 (.t 2),none,[]⟩,
 ⟨some 42,.load false 1 (.t 41),none,[]⟩,
 ⟨some 43,.len false (.t 42),none,[]⟩,
 ⟨some 44,.bin .lss (.t 40) (.t 43),none,[]⟩]
def qtO:List VOper:=[
 ⟨some 47,.fieldAddr 2 (.t 2),none,[]⟩,
 ⟨some 48,.load false 1 (.t 47),none,[0]⟩,
 ⟨some 49,.move (.t 5),none,[]⟩,
 ⟨some 50,.indexAddr 3 none (.t 48) (.t 49),none,[1,2]⟩,
 ⟨some 51,.load true 3 (.t 50),none,[3]⟩,
 ⟨some 52,.fieldAddr 2 (.t 3),none,[]⟩,
 ⟨some 53,.load false 1 (.t 52),none,[5]⟩,
 ⟨some 54,.move (.t 5),none,[]⟩,
 ⟨some 55,.indexAddr 3 none (.t 53) (.t 54),none,[6,7]⟩,
 ⟨some 56,.load true 3 (.t 55),none,[8]⟩,
 ⟨some 57,.call true (.c (.fn 3 [])) [.t 51,.t 56],none,[4,9]⟩,
 ⟨some 58,.not (.t 57),none,[10]⟩]
def qtN:List VOper:=[
 ⟨some 59,.fieldAddr 2 (.t 2),none,[]⟩,
 ⟨some 60,.load false 1 (.t 59),none,[0]⟩,
 ⟨some 61,.move (.t 5),none,[]⟩,
 ⟨some 62,.indexAddr 3 none (.t 60) (.t 61),none,[1,2]⟩,
 ⟨some 63,.load true 3 (.t 62),none,[3]⟩,
 ⟨some 64,.fieldAddr 2 (.t 3),none,[]⟩,
 ⟨some 65,.load false 1 (.t 64),none,[5]⟩,
 ⟨some 66,.move (.t 5),none,[]⟩,
 ⟨some 67,.indexAddr 3 none (.t 65) (.t 66),none,[6,7]⟩,
 ⟨some 68,.load true 3 (.t 67),none,[8]⟩,
 ⟨some 69,.call true (.c (.fn 84 [])) [.t 63,.t 68],none,[4,9]⟩,
 ⟨some 4,.move (.t 69),none,[0,1,2,3,4,5,6,7,8,9,10]⟩]
def qk3:List VOper:=[
 ⟨some 45,.move (.t 5),none,[]⟩,
 ⟨some 46,.bin .add (.t 45) (.c (.d (.int .i64 1))),none,[]⟩,
 ⟨some 5,.move (.t 46),none,[]⟩]
def qvZ:VCode:=(.seq (.seq (.region false 0 [2,3,5,44] qk4) (.cond (.t 44) .skip (.exit 0))) (.seq (.block 1 (.seq (.region true 0 [2,3,5,58] qtO) (.cond (.t 58) (.seq (.region true 0 [4] qtN) .ret) .skip))) (.region false 0 [2,3,5] qk3)))
def qfK:List VOper:=[
 ⟨some 4,.move (.c (.d (.bool false))),none,[]⟩]
def v84:VFn:=⟨2,[.tmp 4],(.seq (.region false 2 [2,3] qlc) (.seq (.seq (.region false 0 [2,3,10] qlb) (.cond (.t 10) (.seq (.region false 0 [4] qla) .ret) .skip)) (.seq (.seq (.region false 0 [2,3,20] qk9) (.cond (.t 20) (.seq (.region false 0 [4] qk8) .ret) .skip)) (.seq (.seq (.region false 0 [2,3,32] qk7) (.cond (.t 32) (.seq (.region false 0 [4] qk6) .ret) .skip)) (.seq (.seq (.region false 0 [2,3,5] qk5) (.block 0 (.loop [2,3,5] qvZ))) (.seq (.region false 0 [4] qfK) .ret))))))⟩
def qDA:List VOper:=[
 ⟨some 2,.move (.c (.d (.int .i64 0))),none,[]⟩]
def qDz:List VOper:=[
 ⟨some 3,.move (.t 0),none,[]⟩]
def qDy:List VOper:=[
 ⟨some 2,.move (.c (.d (.int .i64 1))),none,[]⟩]
def qDx:List VOper:=[
 ⟨some 2,.move (.c (.d (.int .i64 0))),none,[]⟩]
def v85:VFn:=⟨1,[.tmp 2],(.seq (.region false 0 [0] qDA) (.seq (.seq (.region false 0 [3] qDz) (.cond (.t 3) (.seq (.region false 0 [2] qDy) .ret) .skip)) (.seq (.region false 0 [2] qDx) .ret)))⟩
def qzu:List VOper:=[
 ⟨some 1,.box 0 (.t 0),none,[]⟩,
 ⟨some 2,.move (.c (.d (.bool false))),none,[]⟩]
def qzt:List VOper:=[
 ⟨some 3,.load true 3 (.t 1),none,[]⟩,
 ⟨some 4,.call true (.c (.fn 110 [])) [.t 3],none,[]⟩,
 ⟨some 5,.len false (.t 4),none,[]⟩,
 ⟨some 6,.bin .eql (.t 5) (.c (.d (.int .i64 0))),none,[]⟩,
 ⟨some 2,.move (.t 6),none,[]⟩]
def qCC:VFn:=⟨1,[.tmp 2],(.seq (.region false 1 [1] qzu) (.seq (.region false 0 [2] qzt) .ret))⟩
def qzs:List VOper:=[
 ⟨some 1,.box 0 (.t 0),none,[]⟩,
 ⟨some 2,.move (.c (.d (.bool false))),none,[]⟩]
def qzr:List VOper:=[
 ⟨some 3,.load true 3 (.t 1),none,[]⟩,
 ⟨some 4,.call true (.c (.fn 104 [])) [.t 3],none,[]⟩,
 ⟨some 5,.len false (.t 4),none,[]⟩,
 ⟨some 6,.bin .eql (.t 5) (.c (.d (.int .i64 0))),none,[]⟩,
 ⟨some 2,.move (.t 6),none,[]⟩]
def qCB:VFn:=⟨1,[.tmp 2],(.seq (.region false 1 [1] qzs) (.seq (.region false 0 [2] qzr) .ret))⟩
def qzq:List VOper:=[
 ⟨some 1,.box 0 (.t 0),none,[]⟩,
 ⟨some 2,.move (.c (.d (.sl .nil []))),none,[]⟩]
def qzp:List VOper:=[
 ⟨some 4,.buildSlice 1 (.int .i64 0) 0 [],none,[]⟩,
 ⟨some 3,.alloc 0 [.sl .nil []],none,[]⟩,
 ⟨none,.store false 1 (.t 3) (.t 4),none,[]⟩]
def qzo:List VOper:=[
 ⟨some 5,.load true 3 (.t 1),none,[]⟩,
 ⟨some 6,.makeFunc 105 [.t 3],none,[]⟩,
 ⟨some 7,.call false (.c (.fn 25 [])) [.t 5,.t 6],none,[]⟩]
def qzn:List VOper:=[
 ⟨some 8,.load false 1 (.t 3),none,[]⟩,
 ⟨some 2,.move (.t 8),none,[]⟩]
def qCA:VFn:=⟨1,[.tmp 2],(.seq (.region false 1 [1] qzq) (.seq (.region false 1 [1,3] qzp) (.seq (.region false 0 [3] qzo) (.seq (.region false 0 [2] qzn) .ret))))⟩
def quh:List VOper:=[
 ⟨some 2,.box 0 (.t 0),none,[]⟩]
def qug:List VOper:=[
 ⟨some 3,.load true 3 (.t 2),none,[]⟩,
 ⟨some 4,.call true (.c (.fn 75 [])) [.t 3],none,[]⟩]
def quf:List VOper:=[
 ⟨some 5,.load false 1 (.t 1),none,[]⟩,
 ⟨some 6,.fieldAddr 1 (.t 2),none,[]⟩,
 ⟨some 7,.load false 1 (.t 6),none,[]⟩,
 ⟨some 8,.call true (.c (.fn 106 [])) [.t 5,.t 7],none,[]⟩,
 ⟨none,.store false 1 (.t 1) (.t 8),none,[]⟩]
def qAI:VFn:=⟨2,[],(.seq (.region false 1 [1,2] quh) (.seq (.region false 0 [1,2,4] qug) (.cond (.t 4) (.region false 0 [] quf) .skip)))⟩
def qEE:List VOper:=[
 ⟨some 3,.box 0 (.t 1),none,[]⟩,
 ⟨some 4,.move (.c (.d (.sl .nil []))),none,[]⟩]
def qED:List VOper:=[
 ⟨some 7,.move (.t 0),none,[]⟩,
 ⟨some 8,.call true (.c (.fn 107 [])) [.t 7],none,[]⟩,
 ⟨some 5,.move (.t 8),none,[]⟩]
def qEC:List VOper:=[
 ⟨some 9,.move (.t 0),none,[]⟩,
 ⟨some 10,.load false 1 (.t 3),none,[]⟩,
 ⟨some 11,.call true (.c (.fn 54 [])) [.t 9,.t 10],none,[]⟩]
def qEB:List VOper:=[
 ⟨some 12,.move (.t 5),none,[]⟩,
 ⟨some 4,.move (.t 12),none,[]⟩]
def qEA:List VOper:=[
 ⟨some 13,.move (.t 0),none,[]⟩,
 ⟨some 14,.makeFunc 108 [.t 3],none,[]⟩,
 ⟨some 15,.call false (.c (.fn 47 [])) [.t 13,.t 14],none,[]⟩,
 ⟨some 6,.move (.t 15),none,[]⟩]
def qEz:List VOper:=[
 ⟨some 16,.move (.t 6),none,[]⟩,
 ⟨some 17,.bin .lss (.t 16) (.c (.d (.int .i64 0))),none,[]⟩]
def qEy:List VOper:=[
 ⟨some 18,.move (.t 0),none,[]⟩,
 ⟨some 19,.len false (.t 18),none,[]⟩,
 ⟨some 6,.move (.t 19),none,[]⟩]
def qEx:List VOper:=[
 ⟨some 20,.move (.t 5),none,[]⟩,
 ⟨some 21,.move (.t 6),none,[]⟩,
 ⟨some 22,.load false 1 (.t 3),none,[]⟩,
 ⟨some 23,.buildSlice 1 (.int .i64 0) 1 [(0,.t 22)],none,[]⟩,
 ⟨some 24,.call true (.c (.fn 109 [])) [.t 20,.t 21,.t 23],none,[]⟩,
 ⟨some 4,.move (.t 24),none,[]⟩]
def qGl:VFn:=⟨2,[.tmp 4],(.seq (.region false 1 [0,3] qEE) (.seq (.region false 0 [0,3,5] qED) (.seq (.seq (.region false 0 [0,3,5,11] qEC) (.cond (.t 11) (.seq (.region false 0 [4] qEB) .ret) .skip)) (.seq (.region false 0 [0,3,5,6] qEA) (.seq (.seq (.region false 0 [0,3,5,6,17] qEz) (.cond (.t 17) (.region false 0 [3,5,6] qEy) .skip)) (.seq (.region false 0 [4] qEx) .ret))))))⟩
def qEw:List VOper:=[
 ⟨some 2,.move (.c (.d (.sl .nil []))),none,[]⟩]
def qEv:List VOper:=[
 ⟨some 3,.move (.t 0),none,[]⟩,
 ⟨some 4,.eqNil false (.t 3),none,[]⟩]
def qEu:List VOper:=[
 ⟨some 2,.move (.c (.d (.sl .nil []))),none,[]⟩]
def qEt:List VOper:=[
 ⟨some 5,.buildSlice 1 (.int .i64 0) 0 [],none,[]⟩,
 ⟨some 6,.move (.t 0),none,[]⟩,
 ⟨some 7,.append 1 8 (.t 5) (.t 6),none,[]⟩,
 ⟨some 2,.move (.t 7),none,[]⟩]
def qGk:VFn:=⟨1,[.tmp 2],(.seq (.region false 0 [0] qEw) (.seq (.seq (.region false 0 [0,4] qEv) (.cond (.t 4) (.seq (.region false 0 [2] qEu) .ret) .skip)) (.seq (.region false 0 [2] qEt) .ret)))⟩
def qzm:List VOper:=[
 ⟨some 3,.move (.c (.d (.bool false))),none,[]⟩]
def qzl:List VOper:=[
 ⟨some 4,.move (.t 0),none,[]⟩,
 ⟨some 5,.load false 1 (.t 1),none,[]⟩,
 ⟨some 6,.bin .gtr (.t 4) (.t 5),none,[]⟩,
 ⟨some 3,.move (.t 6),none,[]⟩]
def qyO:VFn:=⟨2,[.tmp 3],(.seq (.region false 0 [0,1] qzm) (.seq (.region false 0 [3] qzl) .ret))⟩
def qzk:List VOper:=[
 ⟨some 1,.box 0 (.t 0),none,[]⟩,
 ⟨some 2,.move (.c (.d (.sl .nil []))),none,[]⟩]
def qzj:List VOper:=[
 ⟨some 3,.load true 3 (.t 1),none,[]⟩,
 ⟨some 4,.buildSlice 1 (.int .i64 0) 0 [],none,[]⟩,
 ⟨some 5,.call true (.c (.fn 111 [])) [.t 3,.t 4],none,[]⟩,
 ⟨some 2,.move (.t 5),none,[]⟩]
def qCz:VFn:=⟨1,[.tmp 2],(.seq (.region false 1 [1] qzk) (.seq (.region false 0 [2] qzj) .ret))⟩
def qi5:List VOper:=[
 ⟨some 2,.box 0 (.t 0),none,[]⟩,
 ⟨some 4,.move (.c (.d (.sl .nil []))),none,[]⟩]
def qi4:List VOper:=[
 ⟨some 6,.fieldAddr 0 (.t 2),none,[]⟩,
 ⟨some 7,.load false 1 (.t 6),none,[]⟩,
 ⟨some 8,.bin .eql (.t 7) (.c (.d (.int .i64 (-1)))),none,[]⟩]
def qi3:List VOper:=[
 ⟨some 9,.move (.t 1),none,[]⟩,
 ⟨some 10,.fieldAddr 1 (.t 2),none,[]⟩,
 ⟨some 11,.load false 1 (.t 10),none,[]⟩,
 ⟨some 12,.call true (.c (.fn 112 [])) [.t 9,.t 11],none,[]⟩,
 ⟨some 1,.move (.t 12),none,[]⟩]
def qi2:List VOper:=[
 ⟨some 5,.move (.c (.d (.int .i64 0))),none,[]⟩]
def qi1:List VOper:=[
 ⟨some 13,.move (.t 5),none,[]⟩,
 ⟨some 14,.fieldAddr 2 (.t 2),none,[]⟩,
 ⟨some 15,.load false 1 (.t 14),none,[]⟩,
 ⟨some 16,.len false (.t 15),none,[]⟩,
 ⟨some 17,.bin .lss (.t 13) (.t 16),none,[]⟩]
def qiZ:List VOper:=[
 ⟨some 20,.fieldAddr 2 (.t 2),none,[]⟩,
 ⟨some 21,.load false 1 (.t 20),none,[]⟩,
 ⟨some 22,.move (.t 5),none,[]⟩,
 ⟨some 23,.indexAddr 3 none (.t 21) (.t 22),none,[]⟩,
 ⟨some 24,.load true 3 (.t 23),none,[]⟩,
 ⟨some 25,.move (.t 1),none,[]⟩,
 ⟨some 26,.call true (.c (.fn 111 [])) [.t 24,.t 25],none,[]⟩,
 ⟨some 1,.move (.t 26),none,[]⟩]
def qi0:List VOper:=[
 ⟨some 18,.move (.t 5),none,[]⟩,
 ⟨some 19,.bin .add (.t 18) (.c (.d (.int .i64 1))),none,[]⟩,
 ⟨some 5,.move (.t 19),none,[]⟩]
def qqj:VCode:=(.seq (.seq (.region false 0 [1,2,5,17] qi1) (.cond (.t 17) .skip (.exit 0))) (.seq (.block 1 (.region false 0 [1,2,5] qiZ)) (.region false 0 [1,2,5] qi0)))
def qiY:List VOper:=[
 ⟨some 27,.move (.t 1),none,[]⟩,
 ⟨some 4,.move (.t 27),none,[]⟩]
def qxj:VFn:=⟨2,[.tmp 4],(.seq (.region false 1 [1,2] qi5) (.seq (.seq (.region false 0 [1,2,8] qi4) (.cond (.t 8) (.region false 0 [1,2] qi3) .skip)) (.seq (.seq (.region false 0 [1,2,5] qi2) (.block 0 (.loop [1,2,5] qqj))) (.seq (.region false 0 [4] qiY) .ret))))⟩
def qiX:List VOper:=[
 ⟨some 4,.move (.c (.d (.sl .nil []))),none,[]⟩]
def qiW:List VOper:=[
 ⟨some 7,.move (.t 0),none,[]⟩,
 ⟨some 8,.move (.t 1),none,[]⟩,
 ⟨some 9,.call true (.c (.fn 53 [])) [.t 7,.t 8],none,[]⟩]
def qiV:List VOper:=[
 ⟨some 10,.buildSlice 1 (.int .i64 0) 0 [],none,[]⟩,
 ⟨some 11,.move (.t 0),none,[]⟩,
 ⟨some 12,.append 1 8 (.t 10) (.t 11),none,[]⟩,
 ⟨some 4,.move (.t 12),none,[]⟩]
def qiU:List VOper:=[
 ⟨some 5,.move (.c (.d (.int .i64 0))),none,[]⟩]
def qiT:List VOper:=[
 ⟨some 13,.move (.t 5),none,[]⟩,
 ⟨some 14,.move (.t 0),none,[]⟩,
 ⟨some 15,.len false (.t 14),none,[]⟩,
 ⟨some 16,.bin .lss (.t 13) (.t 15),none,[]⟩,
 ⟨some 17,.move (.t 16),none,[]⟩,
 ⟨some 18,.move (.t 0),some (17,true),[]⟩,
 ⟨some 19,.move (.t 5),some (17,true),[]⟩,
 ⟨some 20,.indexAddr 1 none (.t 18) (.t 19),some (17,true),[]⟩,
 ⟨some 21,.load false 1 (.t 20),some (17,true),[]⟩,
 ⟨some 22,.move (.t 1),some (17,true),[]⟩,
 ⟨some 23,.bin .lss (.t 21) (.t 22),some (17,true),[]⟩,
 ⟨some 24,.pick (.t 17) (.t 23) (.c (.d (.bool false))),none,[]⟩]
def qiS:List VOper:=[
 ⟨some 25,.move (.t 5),none,[]⟩,
 ⟨some 26,.bin .add (.t 25) (.c (.d (.int .i64 1))),none,[]⟩,
 ⟨some 5,.move (.t 26),none,[]⟩]
def qkD:VCode:=(.seq (.seq (.region false 0 [0,1,5,24] qiT) (.cond (.t 24) .skip (.exit 0))) (.block 1 (.region false 0 [0,1,5] qiS)))
def qiR:List VOper:=[
 ⟨some 27,.buildSlice 1 (.int .i64 0) 0 [],none,[]⟩,
 ⟨some 28,.move (.t 0),none,[]⟩,
 ⟨some 29,.move (.t 5),none,[]⟩,
 ⟨some 30,.slice false 1 (.t 28) none (some (.t 29)),none,[]⟩,
 ⟨some 31,.append 1 8 (.t 27) (.t 30),none,[]⟩,
 ⟨some 6,.move (.t 31),none,[]⟩]
def qiQ:List VOper:=[
 ⟨some 32,.move (.t 6),none,[]⟩,
 ⟨some 33,.move (.t 1),none,[]⟩,
 ⟨some 34,.buildSlice 1 (.int .i64 0) 1 [(0,.t 33)],none,[]⟩,
 ⟨some 35,.append 1 8 (.t 32) (.t 34),none,[]⟩,
 ⟨some 6,.move (.t 35),none,[]⟩]
def qiP:List VOper:=[
 ⟨some 36,.move (.t 6),none,[]⟩,
 ⟨some 37,.move (.t 0),none,[]⟩,
 ⟨some 38,.move (.t 5),none,[]⟩,
 ⟨some 39,.slice false 1 (.t 37) (some (.t 38)) none,none,[]⟩,
 ⟨some 40,.append 1 8 (.t 36) (.t 39),none,[]⟩,
 ⟨some 4,.move (.t 40),none,[]⟩]
def qyN:VFn:=⟨2,[.tmp 4],(.seq (.region false 0 [0,1] qiX) (.seq (.seq (.region false 0 [0,1,9] qiW) (.cond (.t 9) (.seq (.region false 0 [4] qiV) .ret) .skip)) (.seq (.region false 0 [0,1,5] qiU) (.seq (.block 0 (.loop [0,1,5] qkD)) (.seq (.region false 0 [0,1,5,6] qiR) (.seq (.region false 0 [0,5,6] qiQ) (.seq (.region false 0 [4] qiP) .ret)))))))⟩
def qf7:List VOper:=[
 ⟨some 3,.box 0 (.t 1),none,[]⟩,
 ⟨some 4,.move (.c (.d (.int .i64 0))),none,[]⟩]
def qf6:List VOper:=[
 ⟨some 5,.move (.c (.d (.int .i64 1))),none,[]⟩]
def qf5:List VOper:=[
 ⟨some 7,.move (.t 0),none,[]⟩,
 ⟨some 8,.fieldAddr 0 (.t 3),none,[]⟩,
 ⟨some 9,.load false 1 (.t 8),none,[]⟩,
 ⟨some 10,.call true (.c (.fn 33 [])) [.t 7,.t 9],none,[]⟩,
 ⟨some 11,.move (.t 10),none,[]⟩,
 ⟨some 12,.fieldAddr 2 (.t 3),some (11,true),[]⟩,
 ⟨some 13,.load false 1 (.t 12),some (11,true),[]⟩,
 ⟨some 14,.len false (.t 13),some (11,true),[]⟩,
 ⟨some 15,.bin .gtr (.t 14) (.c (.d (.int .i64 0))),some (11,true),[]⟩,
 ⟨some 16,.pick (.t 11) (.t 15) (.c (.d (.bool false))),none,[]⟩]
def qf4:List VOper:=[
 ⟨some 17,.fieldAddr 2 (.t 3),none,[]⟩,
 ⟨some 18,.load false 1 (.t 17),none,[]⟩,
 ⟨some 19,.len false (.t 18),none,[]⟩,
 ⟨some 20,.bin .sub (.t 19) (.c (.d (.int .i64 1))),none,[]⟩,
 ⟨some 5,.move (.t 20),none,[]⟩]
def qf3:List VOper:=[
 ⟨some 6,.move (.c (.d (.int .i64 0))),none,[]⟩]
def qf2:List VOper:=[
 ⟨some 21,.move (.t 6),none,[]⟩,
 ⟨some 22,.fieldAddr 2 (.t 3),none,[]⟩,
 ⟨some 23,.load false 1 (.t 22),none,[]⟩,
 ⟨some 24,.len false (.t 23),none,[]⟩,
 ⟨some 25,.bin .lss (.t 21) (.t 24),none,[]⟩]
def qf0:List VOper:=[
 ⟨some 28,.move (.t 5),none,[]⟩,
 ⟨some 29,.move (.t 0),none,[]⟩,
 ⟨some 30,.fieldAddr 2 (.t 3),none,[]⟩,
 ⟨some 31,.load false 1 (.t 30),none,[]⟩,
 ⟨some 32,.move (.t 6),none,[]⟩,
 ⟨some 33,.indexAddr 3 none (.t 31) (.t 32),none,[]⟩,
 ⟨some 34,.load true 3 (.t 33),none,[]⟩,
 ⟨some 35,.call true (.c (.fn 117 [])) [.t 29,.t 34],none,[]⟩,
 ⟨some 36,.bin .add (.t 28) (.t 35),none,[]⟩,
 ⟨some 5,.move (.t 36),none,[]⟩]
def qf1:List VOper:=[
 ⟨some 26,.move (.t 6),none,[]⟩,
 ⟨some 27,.bin .add (.t 26) (.c (.d (.int .i64 1))),none,[]⟩,
 ⟨some 6,.move (.t 27),none,[]⟩]
def qqi:VCode:=(.seq (.seq (.region false 0 [0,3,5,6,25] qf2) (.cond (.t 25) .skip (.exit 0))) (.seq (.block 1 (.region false 0 [0,3,5,6] qf0)) (.region false 0 [0,3,5,6] qf1)))
def qfZ:List VOper:=[
 ⟨some 37,.move (.t 5),none,[]⟩,
 ⟨some 4,.move (.t 37),none,[]⟩]
def qtr:VFn:=⟨2,[.tmp 4],(.seq (.region false 1 [0,3] qf7) (.seq (.region false 0 [0,3,5] qf6) (.seq (.seq (.region false 0 [0,3,5,16] qf5) (.cond (.t 16) (.region false 0 [0,3,5] qf4) .skip)) (.seq (.seq (.region false 0 [0,3,5,6] qf3) (.block 0 (.loop [0,3,5,6] qqi))) (.seq (.region false 0 [4] qfZ) .ret)))))⟩
def qfY:List VOper:=[
 ⟨some 3,.box 0 (.t 1),none,[]⟩,
 ⟨some 4,.move (.c (.d (.int .i64 0))),none,[]⟩]
def qfX:List VOper:=[
 ⟨some 5,.move (.c (.d (.int .i64 1))),none,[]⟩]
def qfW:List VOper:=[
 ⟨some 8,.move (.t 0),none,[]⟩,
 ⟨some 9,.fieldAddr 0 (.t 3),none,[]⟩,
 ⟨some 10,.load false 1 (.t 9),none,[]⟩,
 ⟨some 11,.call true (.c (.fn 34 [])) [.t 8,.t 10],none,[]⟩,
 ⟨some 12,.move (.t 11),none,[]⟩,
 ⟨some 13,.fieldAddr 2 (.t 3),some (12,true),[]⟩,
 ⟨some 14,.load false 1 (.t 13),some (12,true),[]⟩,
 ⟨some 15,.len false (.t 14),some (12,true),[]⟩,
 ⟨some 16,.bin .gtr (.t 15) (.c (.d (.int .i64 0))),some (12,true),[]⟩,
 ⟨some 17,.pick (.t 12) (.t 16) (.c (.d (.bool false))),none,[]⟩]
def qfV:List VOper:=[
 ⟨some 18,.fieldAddr 2 (.t 3),none,[]⟩,
 ⟨some 19,.load false 1 (.t 18),none,[]⟩,
 ⟨some 20,.len false (.t 19),none,[]⟩,
 ⟨some 21,.bin .sub (.t 20) (.c (.d (.int .i64 1))),none,[]⟩,
 ⟨some 5,.move (.t 21),none,[]⟩]
def qfU:List VOper:=[
 ⟨some 22,.fieldAddr 2 (.t 3),none,[]⟩,
 ⟨some 23,.load false 1 (.t 22),none,[]⟩,
 ⟨some 24,.len false (.t 23),none,[]⟩,
 ⟨some 25,.move (.c (.d (.int .i64 0))),none,[]⟩]
def qfT:List VOper:=[
 ⟨some 26,.bin .lss (.t 25) (.t 24),none,[]⟩]
def qfS:List VOper:=[
 ⟨some 27,.indexAddr 3 none (.t 23) (.t 25),none,[]⟩,
 ⟨some 28,.load true 3 (.t 27),none,[]⟩,
 ⟨some 7,.alloc 0 [.int .i64 0,.int .i64 0,.sl .nil []],none,[]⟩,
 ⟨none,.store false 3 (.t 7) (.t 28),none,[]⟩]
def qfR:List VOper:=[
 ⟨some 29,.move (.t 5),none,[]⟩,
 ⟨some 30,.move (.t 0),none,[]⟩,
 ⟨some 31,.load true 3 (.t 7),none,[]⟩,
 ⟨some 32,.call true (.c (.fn 118 [])) [.t 30,.t 31],none,[]⟩,
 ⟨some 33,.bin .add (.t 29) (.t 32),none,[]⟩,
 ⟨some 5,.move (.t 33),none,[]⟩]
def qfQ:List VOper:=[
 ⟨some 34,.bin .add (.t 25) (.c (.d (.int .i64 1))),none,[]⟩,
 ⟨some 25,.move (.t 34),none,[]⟩]
def qqh:VCode:=(.seq (.region false 0 [0,5,23,24,25,26] qfT) (.seq (.cond (.t 26) .skip (.exit 0)) (.seq (.block 1 (.seq (.region false 1 [0,5,7,23,24,25] qfS) (.region false 0 [0,5,23,24,25] qfR))) (.region false 0 [0,5,23,24,25] qfQ))))
def qfP:List VOper:=[
 ⟨some 35,.move (.t 5),none,[]⟩,
 ⟨some 4,.move (.t 35),none,[]⟩]
def qtq:VFn:=⟨2,[.tmp 4],(.seq (.region false 1 [0,3] qfY) (.seq (.region false 0 [0,3,5] qfX) (.seq (.seq (.region false 0 [0,3,5,17] qfW) (.cond (.t 17) (.region false 0 [0,3,5] qfV) .skip)) (.seq (.seq (.region false 0 [0,5,23,24,25] qfU) (.block 0 (.loop [0,5,23,24,25] qqh))) (.seq (.region false 0 [4] qfP) .ret)))))⟩
def qzi:List VOper:=[
 ⟨some 2,.move (.c (.d (.bool false))),none,[]⟩]
def qzh:List VOper:=[
 ⟨some 3,.move (.t 0),none,[]⟩,
 ⟨some 4,.len false (.t 3),none,[]⟩,
 ⟨some 5,.bin .gtr (.t 4) (.c (.d (.int .i64 1048576))),none,[]⟩,
 ⟨some 2,.move (.t 5),none,[]⟩]
def qCy:VFn:=⟨1,[.tmp 2],(.seq (.region false 0 [0] qzi) (.seq (.region false 0 [2] qzh) .ret))⟩
def qmF:List VOper:=[
 ⟨some 1,.box 0 (.t 0),none,[]⟩,
 ⟨some 2,.alloc 1 [.int .i64 0,.int .i64 0,.sl .nil []],none,[]⟩]
def qmE:List VOper:=[
 ⟨some 5,.fieldAddr 0 (.t 1),none,[]⟩,
 ⟨some 6,.load false 1 (.t 5),none,[]⟩,
 ⟨some 7,.fieldAddr 1 (.t 1),none,[]⟩,
 ⟨some 8,.load false 1 (.t 7),none,[]⟩,
 ⟨some 9,.build [.int .i64 0,.int .i64 0,.sl .nil []] [(0,1,.t 6),(1,1,.t 8)],none,[]⟩,
 ⟨some 3,.alloc 0 [.int .i64 0,.int .i64 0,.sl .nil []],none,[]⟩,
 ⟨none,.store false 3 (.t 3) (.t 9),none,[]⟩]
def qmD:List VOper:=[
 ⟨some 4,.move (.c (.d (.int .i64 0))),none,[]⟩]
def qmC:List VOper:=[
 ⟨some 10,.move (.t 4),none,[]⟩,
 ⟨some 11,.fieldAddr 2 (.t 1),none,[]⟩,
 ⟨some 12,.load false 1 (.t 11),none,[]⟩,
 ⟨some 13,.len false (.t 12),none,[]⟩,
 ⟨some 14,.bin .lss (.t 10) (.t 13),none,[]⟩]
def que:List VOper:=[
 ⟨some 17,.fieldAddr 2 (.t 3),none,[]⟩,
 ⟨some 18,.load false 1 (.t 17),none,[0]⟩,
 ⟨some 19,.fieldAddr 2 (.t 1),none,[]⟩,
 ⟨some 20,.load false 1 (.t 19),none,[2]⟩,
 ⟨some 21,.move (.t 4),none,[]⟩,
 ⟨some 22,.indexAddr 3 none (.t 20) (.t 21),none,[3,4]⟩,
 ⟨some 23,.load true 3 (.t 22),none,[5]⟩,
 ⟨some 24,.call true (.c (.fn 146 [])) [.t 23],none,[6]⟩,
 ⟨some 25,.buildSlice 3 (.agg [.int .i64 0,.int .i64 0,.sl .nil []]) 1 [(0,.t 24)],none,[7]⟩,
 ⟨some 26,.append 3 40 (.t 18) (.t 25),none,[1,7,8]⟩,
 ⟨some 27,.fieldAddr 2 (.t 3),none,[0,1,2,3,4,5,6,7,8,9]⟩,
 ⟨none,.store false 1 (.t 27) (.t 26),none,[0,1,2,3,4,5,6,7,8,9,10]⟩]
def qmB:List VOper:=[
 ⟨some 15,.move (.t 4),none,[]⟩,
 ⟨some 16,.bin .add (.t 15) (.c (.d (.int .i64 1))),none,[]⟩,
 ⟨some 4,.move (.t 16),none,[]⟩]
def qqg:VCode:=(.seq (.seq (.region false 0 [1,2,3,4,14] qmC) (.cond (.t 14) .skip (.exit 0))) (.seq (.block 1 (.region true 0 [1,2,3,4] que)) (.region false 0 [1,2,3,4] qmB)))
def qmA:List VOper:=[
 ⟨some 28,.load true 3 (.t 3),none,[]⟩,
 ⟨none,.store false 3 (.t 2) (.t 28),none,[]⟩]
def qAH:VFn:=⟨1,[.cell 2 true 3],(.seq (.region false 2 [1,2] qmF) (.seq (.region false 1 [1,2,3] qmE) (.seq (.seq (.region false 0 [1,2,3,4] qmD) (.block 0 (.loop [1,2,3,4] qqg))) (.seq (.region false 0 [2] qmA) .ret))))⟩
def qzg:List VOper:=[
 ⟨some 2,.alloc 0 [.int .i64 0,.int .i64 0,.sl .nil []],none,[]⟩]
def qzf:List VOper:=[
 ⟨some 3,.move (.t 0),none,[]⟩,
 ⟨some 4,.build [.int .i64 0,.int .i64 0,.sl .nil []] [(0,1,.c (.d (.int .i64 (-1)))),(1,1,.t 3)],none,[]⟩,
 ⟨none,.store false 3 (.t 2) (.t 4),none,[]⟩]
def qCx:VFn:=⟨1,[.cell 2 true 3],(.seq (.region false 1 [0,2] qzg) (.seq (.region false 0 [2] qzf) .ret))⟩
def qfO:List VOper:=[
 ⟨some 3,.box 0 (.t 1),none,[]⟩,
 ⟨some 4,.alloc 1 [.int .i64 0,.int .i64 0,.sl .nil []],none,[]⟩]
def qfN:List VOper:=[
 ⟨some 9,.fieldAddr 0 (.t 3),none,[]⟩,
 ⟨some 10,.load false 1 (.t 9),none,[]⟩,
 ⟨some 11,.fieldAddr 1 (.t 3),none,[]⟩,
 ⟨some 12,.load false 1 (.t 11),none,[]⟩,
 ⟨some 13,.build [.int .i64 0,.int .i64 0,.sl .nil []] [(0,1,.t 10),(1,1,.t 12)],none,[]⟩,
 ⟨some 5,.alloc 0 [.int .i64 0,.int .i64 0,.sl .nil []],none,[]⟩,
 ⟨none,.store false 3 (.t 5) (.t 13),none,[]⟩]
def qfM:List VOper:=[
 ⟨some 6,.move (.c (.d (.int .i64 0))),none,[]⟩]
def qhG:List VOper:=[
 ⟨some 14,.move (.t 6),none,[]⟩,
 ⟨some 15,.fieldAddr 2 (.t 3),none,[]⟩,
 ⟨some 16,.load false 1 (.t 15),none,[]⟩,
 ⟨some 17,.len false (.t 16),none,[]⟩,
 ⟨some 18,.bin .lss (.t 14) (.t 17),none,[]⟩]
def qhE:List VOper:=[
 ⟨some 21,.move (.t 0),none,[]⟩,
 ⟨some 22,.fieldAddr 2 (.t 3),none,[]⟩,
 ⟨some 23,.load false 1 (.t 22),none,[]⟩,
 ⟨some 24,.move (.t 6),none,[]⟩,
 ⟨some 25,.indexAddr 3 none (.t 23) (.t 24),none,[]⟩,
 ⟨some 26,.load true 3 (.t 25),none,[]⟩,
 ⟨some 27,.call true (.c (.fn 153 [])) [.t 21,.t 26],none,[]⟩,
 ⟨some 7,.alloc 0 [.int .i64 0,.int .i64 0,.sl .nil []],none,[]⟩,
 ⟨none,.store false 3 (.t 7) (.t 27),none,[]⟩]
def qex:List VOper:=[
 ⟨some 45,.move (.t 0),none,[]⟩,
 ⟨some 46,.fieldAddr 0 (.t 3),none,[]⟩,
 ⟨some 47,.load false 1 (.t 46),none,[]⟩,
 ⟨some 48,.call true (.c (.fn 33 [])) [.t 45,.t 47],none,[]⟩,
 ⟨some 49,.not (.t 48),none,[]⟩,
 ⟨some 44,.move (.t 49),none,[]⟩]
def qew:List VOper:=[
 ⟨some 50,.fieldAddr 2 (.t 5),none,[]⟩,
 ⟨some 51,.load false 1 (.t 50),none,[]⟩,
 ⟨some 52,.load true 3 (.t 7),none,[]⟩,
 ⟨some 53,.buildSlice 3 (.agg [.int .i64 0,.int .i64 0,.sl .nil []]) 1 [(0,.t 52)],none,[]⟩,
 ⟨some 54,.append 3 40 (.t 51) (.t 53),none,[]⟩,
 ⟨some 55,.fieldAddr 2 (.t 5),none,[]⟩,
 ⟨none,.store false 1 (.t 55) (.t 54),none,[]⟩]
def qev:List VOper:=[
 ⟨some 57,.fieldAddr 0 (.t 7),none,[]⟩,
 ⟨some 58,.load false 1 (.t 57),none,[]⟩,
 ⟨some 59,.fieldAddr 0 (.t 3),none,[]⟩,
 ⟨some 60,.load false 1 (.t 59),none,[]⟩,
 ⟨some 61,.bin .neq (.t 58) (.t 60),none,[]⟩,
 ⟨some 56,.move (.t 61),none,[]⟩]
def qeu:List VOper:=[
 ⟨some 62,.fieldAddr 2 (.t 5),none,[]⟩,
 ⟨some 63,.load false 1 (.t 62),none,[]⟩,
 ⟨some 64,.load true 3 (.t 7),none,[]⟩,
 ⟨some 65,.call false (.c (.fn 154 [])) [.t 63,.t 64],none,[]⟩,
 ⟨some 66,.fieldAddr 2 (.t 5),none,[]⟩,
 ⟨none,.store false 1 (.t 66) (.t 65),none,[]⟩]
def qhD:List VOper:=[
 ⟨some 8,.move (.c (.d (.int .i64 0))),none,[]⟩]
def qhC:List VOper:=[
 ⟨some 28,.move (.t 8),none,[]⟩,
 ⟨some 29,.fieldAddr 2 (.t 7),none,[]⟩,
 ⟨some 30,.load false 1 (.t 29),none,[]⟩,
 ⟨some 31,.len false (.t 30),none,[]⟩,
 ⟨some 32,.bin .lss (.t 28) (.t 31),none,[]⟩]
def qud:List FOper:=[
 .one ⟨some 35,.fieldAddr 2 (.t 5),none,[]⟩,
 .one ⟨some 36,.load false 1 (.t 35),none,[0]⟩,
 .one ⟨some 37,.fieldAddr 2 (.t 7),none,[]⟩,
 .el 38 37 39 (.t 8) 40 3 41 [2] [] [3,4] [5],
 .one ⟨some 42,.call false (.c (.fn 154 [])) [.t 36,.t 41],none,[1,6]⟩,
 .one ⟨some 43,.fieldAddr 2 (.t 5),none,[0,1,2,3,4,5,6,7]⟩,
 .one ⟨none,.store false 1 (.t 43) (.t 42),none,[0,1,2,3,4,5,6,7,8]⟩]
def qhB:List VOper:=[
 ⟨some 33,.move (.t 8),none,[]⟩,
 ⟨some 34,.bin .add (.t 33) (.c (.d (.int .i64 1))),none,[]⟩,
 ⟨some 8,.move (.t 34),none,[]⟩]
def qqf:VCode:=(.seq (.seq (.region false 0 [0,3,4,5,6,7,8,32] qhC) (.cond (.t 32) .skip (.exit 3))) (.seq (.block 4 (.regionF true 0 [0,3,4,5,6,7,8] qud)) (.region false 0 [0,3,4,5,6,7,8] qhB)))
def qhF:List VOper:=[
 ⟨some 19,.move (.t 6),none,[]⟩,
 ⟨some 20,.bin .add (.t 19) (.c (.d (.int .i64 1))),none,[]⟩,
 ⟨some 6,.move (.t 20),none,[]⟩]
def qhX:VCode:=(.seq (.seq (.region false 0 [0,3,4,5,6,18] qhG) (.cond (.t 18) .skip (.exit 0))) (.seq (.block 1 (.seq (.region false 1 [0,3,4,5,6,7] qhE) (.block 2 (.seq (.region false 0 [0,3,4,5,6,7,44] qex) (.cond (.t 44) (.region false 0 [0,3,4,5,6] qew) (.seq (.region false 0 [0,3,4,5,6,7,56] qev) (.cond (.t 56) (.region false 0 [0,3,4,5,6] qeu) (.seq (.region false 0 [0,3,4,5,6,7,8] qhD) (.block 3 (.loop [0,3,4,5,6,7,8] qqf)))))))))) (.region false 0 [0,3,4,5,6] qhF)))
def qdZ:List VOper:=[
 ⟨some 67,.load true 3 (.t 5),none,[]⟩,
 ⟨none,.store false 3 (.t 4) (.t 67),none,[]⟩]
def qCw:VFn:=⟨2,[.cell 4 true 3],(.seq (.region false 2 [0,3,4] qfO) (.seq (.region false 1 [0,3,4,5] qfN) (.seq (.seq (.region false 0 [0,3,4,5,6] qfM) (.block 0 (.loop [0,3,4,5,6] qhX))) (.seq (.region false 0 [4] qdZ) .ret))))⟩
def qmz:List VOper:=[
 ⟨some 3,.box 0 (.t 1),none,[]⟩,
 ⟨some 4,.move (.c (.d (.sl .nil []))),none,[]⟩]
def qmy:List VOper:=[
 ⟨some 5,.move (.c (.d (.int .i64 0))),none,[]⟩]
def quc:List VOper:=[
 ⟨some 7,.move (.t 5),none,[]⟩,
 ⟨some 8,.move (.t 0),none,[]⟩,
 ⟨some 9,.len false (.t 8),none,[1]⟩,
 ⟨some 10,.bin .lss (.t 7) (.t 9),none,[0,2]⟩,
 ⟨some 11,.move (.t 10),none,[3]⟩,
 ⟨some 12,.load true 3 (.t 3),some (11,true),[4]⟩,
 ⟨some 13,.move (.t 0),some (11,true),[4]⟩,
 ⟨some 14,.move (.t 5),some (11,true),[4]⟩,
 ⟨some 15,.indexAddr 3 none (.t 13) (.t 14),some (11,true),[4,6,7]⟩,
 ⟨some 16,.load true 3 (.t 15),some (11,true),[4,8]⟩,
 ⟨some 17,.call true (.c (.fn 84 [])) [.t 12,.t 16],some (11,true),[4,5,9]⟩,
 ⟨some 18,.not (.t 17),some (11,true),[4,10]⟩,
 ⟨some 19,.pick (.t 11) (.t 18) (.c (.d (.bool false))),none,[4,11]⟩]
def qpu:List VOper:=[
 ⟨some 20,.move (.t 5),none,[]⟩,
 ⟨some 21,.bin .add (.t 20) (.c (.d (.int .i64 1))),none,[]⟩,
 ⟨some 5,.move (.t 21),none,[]⟩]
def qkC:VCode:=(.seq (.seq (.region true 0 [0,3,5,19] quc) (.cond (.t 19) .skip (.exit 0))) (.block 1 (.region false 0 [0,3,5] qpu)))
def qmx:List FOper:=[
 .one ⟨some 22,.buildSlice 3 (.agg [.int .i64 0,.int .i64 0,.sl .nil []]) 0 [],none,[]⟩,
 .sl 23 0 24 (.t 5) 25 3 none (some (.t 24)) [] [] [],
 .one ⟨some 26,.append 3 40 (.t 22) (.t 25),none,[]⟩,
 .one ⟨some 6,.move (.t 26),none,[]⟩]
def qmw:List VOper:=[
 ⟨some 27,.move (.t 6),none,[]⟩,
 ⟨some 28,.load true 3 (.t 3),none,[]⟩,
 ⟨some 29,.buildSlice 3 (.agg [.int .i64 0,.int .i64 0,.sl .nil []]) 1 [(0,.t 28)],none,[]⟩,
 ⟨some 30,.append 3 40 (.t 27) (.t 29),none,[]⟩,
 ⟨some 6,.move (.t 30),none,[]⟩]
def qmv:List FOper:=[
 .one ⟨some 31,.move (.t 6),none,[]⟩,
 .sl 32 0 33 (.t 5) 34 3 (some (.t 33)) none [] [] [],
 .one ⟨some 35,.append 3 40 (.t 31) (.t 34),none,[]⟩,
 .one ⟨some 4,.move (.t 35),none,[]⟩]
def qCv:VFn:=⟨2,[.tmp 4],(.seq (.region false 1 [0,3] qmz) (.seq (.region false 0 [0,3,5] qmy) (.seq (.block 0 (.loop [0,3,5] qkC)) (.seq (.regionF false 0 [0,3,5,6] qmx) (.seq (.region false 0 [0,5,6] qmw) (.seq (.regionF false 0 [4] qmv) .ret))))))⟩
def qze:List VOper:=[
 ⟨some 0,.move (.c (.d (.sl .nil []))),none,[]⟩]
def qzd:List VOper:=[
 ⟨some 1,.build [.str ⟨#[]⟩,.int .i64 0,.bool false] [(0,1,.c (.d (.str ⟨#[116,116]⟩)))],none,[]⟩,
 ⟨some 2,.build [.str ⟨#[]⟩,.int .i64 0,.bool false] [(0,1,.c (.d (.str ⟨#[97]⟩)))],none,[]⟩,
 ⟨some 3,.build [.str ⟨#[]⟩,.int .i64 0,.bool false] [(0,1,.c (.d (.str ⟨#[98]⟩)))],none,[]⟩,
 ⟨some 4,.build [.str ⟨#[]⟩,.int .i64 0,.bool false] [(0,1,.c (.d (.str ⟨#[103]⟩))),(1,1,.c (.d (.int .i64 1)))],none,[]⟩,
 ⟨some 5,.build [.str ⟨#[]⟩,.int .i64 0,.bool false] [(0,1,.c (.d (.str ⟨#[104]⟩))),(1,1,.c (.d (.int .i64 2)))],none,[]⟩,
 ⟨some 6,.build [.str ⟨#[]⟩,.int .i64 0,.bool false] [(0,1,.c (.d (.str ⟨#[102]⟩))),(1,1,.c (.d (.int .i64 2))),(2,1,.c (.d (.bool true)))],none,[]⟩,
 ⟨some 7,.build [.str ⟨#[]⟩,.int .i64 0,.bool false] [(0,1,.c (.d (.str ⟨#[107]⟩))),(1,1,.c (.d (.int .i64 2))),(2,1,.c (.d (.bool true)))],none,[]⟩,
 ⟨some 8,.buildSlice 3 (.agg [.str ⟨#[]⟩,.int .i64 0,.bool false]) 7 [(0,.t 1),(1,.t 2),(2,.t 3),(3,.t 4),(4,.t 5),(5,.t 6),(6,.t 7)],none,[]⟩,
 ⟨some 0,.move (.t 8),none,[]⟩]
def qCu:VFn:=⟨0,[.tmp 0],(.seq (.region false 0 [] qze) (.seq (.region false 0 [0] qzd) .ret))⟩
def qmu:List VOper:=[
 ⟨some 2,.move (.c .nilp),none,[]⟩]
def qmt:List VOper:=[
 ⟨some 5,.move (.t 0),none,[]⟩,
 ⟨some 6,.len false (.t 5),none,[]⟩,
 ⟨some 7,.bin .add (.c (.d (.int .i64 27064))) (.t 6),none,[]⟩,
 ⟨some 3,.move (.t 7),none,[]⟩]
def qms:List VOper:=[
 ⟨some 4,.move (.c (.d (.int .i64 0))),none,[]⟩]
def qpt:List VOper:=[
 ⟨some 8,.move (.t 4),none,[]⟩,
 ⟨some 9,.move (.t 0),none,[]⟩,
 ⟨some 10,.len false (.t 9),none,[]⟩,
 ⟨some 11,.bin .lss (.t 8) (.t 10),none,[]⟩,
 ⟨some 12,.move (.t 11),none,[]⟩,
 ⟨some 13,.move (.t 4),some (12,true),[]⟩,
 ⟨some 14,.bin .lss (.t 13) (.c (.d (.int .i64 4000))),some (12,true),[]⟩,
 ⟨some 15,.pick (.t 12) (.t 14) (.c (.d (.bool false))),none,[]⟩]
def qpr:List VOper:=[
 ⟨some 18,.move (.t 3),none,[]⟩,
 ⟨some 19,.bin .mul (.t 18) (.c (.d (.int .i64 131))),none,[]⟩,
 ⟨some 20,.move (.t 0),none,[]⟩,
 ⟨some 21,.move (.t 4),none,[]⟩,
 ⟨some 22,.indexAddr 1 none (.t 20) (.t 21),none,[]⟩,
 ⟨some 23,.load false 1 (.t 22),none,[]⟩,
 ⟨some 24,.conv (.kind .i64) (.t 23),none,[]⟩,
 ⟨some 25,.bin .add (.t 19) (.t 24),none,[]⟩,
 ⟨some 26,.bin .add (.t 25) (.c (.d (.int .i64 7))),none,[]⟩,
 ⟨some 27,.bin .and (.t 26) (.c (.d (.int .i64 1073741823))),none,[]⟩,
 ⟨some 3,.move (.t 27),none,[]⟩]
def qps:List VOper:=[
 ⟨some 16,.move (.t 4),none,[]⟩,
 ⟨some 17,.bin .add (.t 16) (.c (.d (.int .i64 1))),none,[]⟩,
 ⟨some 4,.move (.t 17),none,[]⟩]
def qnn:VCode:=(.seq (.seq (.region false 0 [0,3,4,15] qpt) (.cond (.t 15) .skip (.exit 0))) (.seq (.block 1 (.region false 0 [0,3,4] qpr)) (.region false 0 [0,3,4] qps)))
def qmr:List VOper:=[
 ⟨some 28,.move (.t 0),none,[]⟩,
 ⟨some 29,.move (.t 3),none,[]⟩,
 ⟨some 30,.build [.sl .nil [],.int .i64 0,.int .i64 0] [(0,1,.t 28),(2,1,.t 29)],none,[]⟩,
 ⟨some 31,.box 0 (.t 30),none,[]⟩,
 ⟨some 2,.move (.t 31),none,[]⟩]
def qCt:VFn:=⟨1,[.tmp 2],(.seq (.region false 0 [0] qmu) (.seq (.region false 0 [0,3] qmt) (.seq (.seq (.region false 0 [0,3,4] qms) (.block 0 (.loop [0,3,4] qnn))) (.seq (.region false 1 [2] qmr) .ret))))⟩
def qzc:List VOper:=[
 ⟨some 4,.move (.c (.d (.int .i64 0))),none,[]⟩]
def qzb:List VOper:=[
 ⟨some 9,.move (.t 1),none,[]⟩,
 ⟨some 10,.bin .leq (.t 9) (.c (.d (.int .i64 0))),none,[]⟩]
def qza:List VOper:=[
 ⟨some 4,.move (.c (.d (.int .i64 0))),none,[]⟩]
def qy9:List VOper:=[
 ⟨some 11,.move (.t 1),none,[]⟩,
 ⟨some 12,.bin .leq (.t 11) (.c (.d (.int .i64 256))),none,[]⟩]
def qy8:List VOper:=[
 ⟨some 13,.move (.t 0),none,[]⟩,
 ⟨some 14,.call false (.c (.fn 165 [])) [.t 13],none,[]⟩,
 ⟨some 15,.move (.t 1),none,[]⟩,
 ⟨some 16,.bin .rem (.t 14) (.t 15),none,[]⟩,
 ⟨some 4,.move (.t 16),none,[]⟩]
def qy7:List VOper:=[
 ⟨some 17,.move (.t 0),none,[]⟩,
 ⟨some 18,.call false (.c (.fn 165 [])) [.t 17],none,[]⟩,
 ⟨some 5,.move (.t 18),none,[]⟩]
def qy6:List VOper:=[
 ⟨some 19,.move (.t 0),none,[]⟩,
 ⟨some 20,.call false (.c (.fn 165 [])) [.t 19],none,[]⟩,
 ⟨some 6,.move (.t 20),none,[]⟩]
def qy5:List VOper:=[
 ⟨some 21,.move (.t 0),none,[]⟩,
 ⟨some 22,.call false (.c (.fn 165 [])) [.t 21],none,[]⟩,
 ⟨some 7,.move (.t 22),none,[]⟩]
def qy4:List VOper:=[
 ⟨some 23,.move (.t 0),none,[]⟩,
 ⟨some 24,.call false (.c (.fn 165 [])) [.t 23],none,[]⟩,
 ⟨some 8,.move (.t 24),none,[]⟩]
def qy3:List VOper:=[
 ⟨some 25,.move (.t 5),none,[]⟩,
 ⟨some 26,.bin .mul (.t 25) (.c (.d (.int .i64 16777216))),none,[]⟩,
 ⟨some 27,.move (.t 6),none,[]⟩,
 ⟨some 28,.bin .mul (.t 27) (.c (.d (.int .i64 65536))),none,[]⟩,
 ⟨some 29,.bin .add (.t 26) (.t 28),none,[]⟩,
 ⟨some 30,.move (.t 7),none,[]⟩,
 ⟨some 31,.bin .mul (.t 30) (.c (.d (.int .i64 256))),none,[]⟩,
 ⟨some 32,.bin .add (.t 29) (.t 31),none,[]⟩,
 ⟨some 33,.move (.t 8),none,[]⟩,
 ⟨some 34,.bin .add (.t 32) (.t 33),none,[]⟩,
 ⟨some 35,.move (.t 1),none,[]⟩,
 ⟨some 36,.bin .rem (.t 34) (.t 35),none,[]⟩,
 ⟨some 4,.move (.t 36),none,[]⟩]
def qCs:VFn:=⟨2,[.tmp 4],(.seq (.region false 0 [0,1] qzc) (.seq (.seq (.region false 0 [0,1,10] qzb) (.cond (.t 10) (.seq (.region false 0 [4] qza) .ret) .skip)) (.seq (.seq (.region false 0 [0,1,12] qy9) (.cond (.t 12) (.seq (.region false 0 [4] qy8) .ret) .skip)) (.seq (.region false 0 [0,1,5] qy7) (.seq (.region false 0 [0,1,5,6] qy6) (.seq (.region false 0 [0,1,5,6,7] qy5) (.seq (.region false 0 [1,5,6,7,8] qy4) (.seq (.region false 0 [4] qy3) .ret))))))))⟩
def qy2:List VOper:=[
 ⟨some 4,.move (.c (.d (.int .i64 0))),none,[]⟩]
def qy1:List VOper:=[
 ⟨some 5,.move (.t 1),none,[]⟩,
 ⟨some 6,.move (.t 0),none,[]⟩,
 ⟨some 7,.move (.t 1),none,[]⟩,
 ⟨some 8,.len false (.t 7),none,[]⟩,
 ⟨some 9,.call false (.c (.fn 159 [])) [.t 6,.t 8],none,[]⟩,
 ⟨some 10,.indexAddr 1 none (.t 5) (.t 9),none,[]⟩,
 ⟨some 11,.load false 1 (.t 10),none,[]⟩,
 ⟨some 4,.move (.t 11),none,[]⟩]
def qCr:VFn:=⟨2,[.tmp 4],(.seq (.region false 0 [0,1] qy2) (.seq (.region false 0 [4] qy1) .ret))⟩
def qub:List VOper:=[
 ⟨some 2,.alloc 0 [.int .i64 0,.int .i64 0,.sl .nil []],none,[]⟩]
def qua:List VOper:=[
 ⟨some 6,.move (.t 0),none,[]⟩,
 ⟨some 7,.call false (.c (.fn 163 [])) [.t 6,.c (.d (.int .i64 3))],none,[]⟩,
 ⟨some 3,.alloc 3 [.int .i64 0,.int .i64 0,.sl .nil []],none,[]⟩,
 ⟨none,.store false 3 (.t 3) (.t 7),none,[]⟩]
def qt9:List VOper:=[
 ⟨some 4,.move (.t 3),none,[]⟩]
def qt8:List VOper:=[
 ⟨some 5,.move (.c (.d (.int .i64 0))),none,[]⟩]
def qke:List VOper:=[
 ⟨some 8,.move (.t 5),none,[]⟩,
 ⟨some 9,.bin .lss (.t 8) (.c (.d (.int .i64 3))),none,[]⟩,
 ⟨some 10,.move (.t 9),none,[]⟩,
 ⟨some 11,.move (.t 4),some (10,true),[]⟩,
 ⟨some 12,.nilCheck (.t 11),some (10,true),[]⟩,
 ⟨some 13,.fieldAddr 2 (.t 12),some (10,true),[]⟩,
 ⟨some 14,.load false 1 (.t 13),some (10,true),[]⟩,
 ⟨some 15,.len false (.t 14),some (10,true),[]⟩,
 ⟨some 16,.bin .gtr (.t 15) (.c (.d (.int .i64 0))),some (10,true),[]⟩,
 ⟨some 17,.pick (.t 10) (.t 16) (.c (.d (.bool false))),none,[]⟩,
 ⟨some 18,.move (.t 17),none,[]⟩,
 ⟨some 19,.move (.t 0),some (18,true),[]⟩,
 ⟨some 20,.call false (.c (.fn 162 [])) [.t 19,.c (.d (.int .i64 2))],some (18,true),[]⟩,
 ⟨some 21,.not (.t 20),some (18,true),[]⟩,
 ⟨some 22,.pick (.t 18) (.t 21) (.c (.d (.bool false))),none,[]⟩]
def qmq:List VOper:=[
 ⟨some 25,.move (.t 4),none,[]⟩,
 ⟨some 26,.nilCheck (.t 25),none,[0]⟩,
 ⟨some 27,.fieldAddr 2 (.t 26),none,[1]⟩,
 ⟨some 28,.loadS false 1 (.t 27) 0,none,[2]⟩,
 ⟨some 29,.move (.t 0),none,[]⟩,
 ⟨some 30,.move (.t 4),none,[]⟩,
 ⟨some 31,.nilCheck (.t 30),none,[5]⟩,
 ⟨some 32,.fieldAddr 2 (.t 31),none,[6]⟩,
 ⟨some 33,.load false 1 (.t 32),none,[7]⟩,
 ⟨some 34,.len false (.t 33),none,[8]⟩,
 ⟨some 35,.callS 0 (.c (.fn 159 [])) [.t 29,.t 34],none,[4,9]⟩,
 ⟨some 36,.indexAddr 3 none (.t 28) (.t 35),none,[3,10]⟩,
 ⟨some 4,.move (.t 36),none,[0,1,2,3,4,5,6,7,8,9,10,11]⟩]
def qpq:List VOper:=[
 ⟨some 23,.move (.t 5),none,[]⟩,
 ⟨some 24,.bin .add (.t 23) (.c (.d (.int .i64 1))),none,[]⟩,
 ⟨some 5,.move (.t 24),none,[]⟩]
def qjE:VCode:=(.seq (.seq (.region false 0 [0,2,3,4,5,22] qke) (.cond (.t 22) .skip (.exit 0))) (.seq (.block 1 (.ghost (.focC 4 2 [0,2,3,4,5]) (.region true 0 [0,2,3,4,5] qmq))) (.region false 0 [0,2,3,4,5] qpq)))
def qiN:List VOper:=[
 ⟨some 37,.move (.t 0),none,[]⟩,
 ⟨some 38,.call false (.c (.fn 159 [])) [.t 37,.c (.d (.int .i64 12))],none,[]⟩]
def qiM:List VOper:=[
 ⟨some 40,.bin .eql (.t 38) (.c (.d (.int .i64 0))),none,[]⟩,
 ⟨some 39,.move (.t 40),none,[]⟩]
def qt7:List VOper:=[
 ⟨some 41,.move (.t 4),none,[]⟩,
 ⟨some 42,.move (.t 0),none,[]⟩,
 ⟨some 43,.buildSlice 1 (.int .i64 0) 5 [(0,.c (.d (.int .i64 (-2)))),(1,.c (.d (.int .i64 (-1)))),(2,.c (.d (.int .i64 0))),(3,.c (.d (.int .i64 5))),(4,.c (.d (.int .i64 7)))],none,[]⟩,
 ⟨some 44,.call false (.c (.fn 160 [])) [.t 42,.t 43],none,[]⟩,
 ⟨some 45,.nilCheck (.t 41),none,[]⟩,
 ⟨some 46,.fieldAddr 0 (.t 45),none,[]⟩,
 ⟨none,.store false 1 (.t 46) (.t 44),none,[]⟩]
def qgY:List VOper:=[
 ⟨some 48,.bin .eql (.t 38) (.c (.d (.int .i64 1))),none,[]⟩,
 ⟨some 47,.move (.t 48),none,[]⟩]
def qn9:List VOper:=[
 ⟨some 49,.move (.t 4),none,[]⟩,
 ⟨some 50,.move (.t 0),none,[]⟩,
 ⟨some 51,.buildSlice 1 (.int .i64 0) 4 [(0,.c (.d (.int .i64 (-1)))),(1,.c (.d (.int .i64 1))),(2,.c (.d (.int .i64 99))),(3,.c (.d (.int .i64 100)))],none,[]⟩,
 ⟨some 52,.call false (.c (.fn 160 [])) [.t 50,.t 51],none,[]⟩,
 ⟨some 53,.nilCheck (.t 49),none,[]⟩,
 ⟨some 54,.fieldAddr 1 (.t 53),none,[]⟩,
 ⟨none,.store false 1 (.t 54) (.t 52),none,[]⟩]
def qiO:List VOper:=[
 ⟨some 56,.bin .eql (.t 38) (.c (.d (.int .i64 2))),none,[]⟩,
 ⟨some 55,.move (.t 56),none,[]⟩]
def qlm:List VOper:=[
 ⟨some 57,.move (.t 4),none,[]⟩,
 ⟨some 58,.nilCheck (.t 57),none,[0]⟩,
 ⟨some 59,.fieldAddr 2 (.t 58),none,[1]⟩,
 ⟨some 60,.loadS false 1 (.t 59) 0,none,[2]⟩,
 ⟨some 61,.move (.t 0),none,[]⟩,
 ⟨some 62,.callS 0 (.c (.fn 166 [])) [.t 61,.c (.d (.int .i64 1)),.c (.d (.int .i64 2))],none,[4]⟩,
 ⟨some 63,.len false (.t 60),none,[3]⟩,
 ⟨some 64,.buildSlice 3 (.agg [.int .i64 0,.int .i64 0,.sl .nil []]) 1 [(0,.c (.d (.agg [.int .i64 0,.int .i64 0,.sl .nil []])))],none,[]⟩]
def qfL:List VOper:=[
 ⟨some 65,.append1 3 40 (.t 60) (.t 64) (.t 63) (.t 62) 66,none,[]⟩,
 ⟨some 67,.nilCheck (.t 57),none,[]⟩,
 ⟨some 68,.fieldAddr 2 (.t 67),none,[]⟩,
 ⟨none,.store false 1 (.t 68) (.t 65),none,[]⟩]
def qll:List VOper:=[
 ⟨some 70,.bin .eql (.t 38) (.c (.d (.int .i64 3))),none,[]⟩,
 ⟨some 69,.move (.t 70),none,[]⟩]
def qn8:List VOper:=[
 ⟨some 71,.move (.t 0),none,[]⟩,
 ⟨some 72,.call false (.c (.fn 166 [])) [.t 71,.c (.d (.int .i64 3)),.c (.d (.int .i64 3))],none,[]⟩,
 ⟨none,.store false 3 (.t 2) (.t 72),none,[]⟩]
def qlk:List VOper:=[
 ⟨some 73,.load true 3 (.t 3),none,[]⟩,
 ⟨none,.store false 3 (.t 2) (.t 73),none,[]⟩]
def qCq:VFn:=⟨1,[.cell 2 true 3],(.seq (.region false 1 [0,2] qub) (.seq (.region false 4 [0,2,3] qua) (.seq (.region false 0 [0,2,3,4] qt9) (.seq (.seq (.region false 0 [0,2,3,4,5] qt8) (.block 0 (.loop [0,2,3,4,5] qjE))) (.seq (.seq (.region false 0 [0,2,3,4,38] qiN) (.block 2 (.seq (.region false 0 [0,2,3,4,38,39] qiM) (.cond (.t 39) (.region false 0 [2,3] qt7) (.seq (.region false 0 [0,2,3,4,38,47] qgY) (.cond (.t 47) (.region false 0 [2,3] qn9) (.seq (.region false 0 [0,2,3,4,38,55] qiO) (.cond (.t 55) (.regionT 0 [2,3] qlm qfL) (.seq (.region false 0 [0,2,3,69] qll) (.cond (.t 69) (.seq (.region false 0 [2] qn8) .ret) .skip)))))))))) (.seq (.ghost (.frzB 3 2 [2]) (.region false 0 [2] qlk)) .ret))))))⟩
def qy0:List VOper:=[
 ⟨some 4,.move (.c (.d (.bool false))),none,[]⟩]
def qyZ:List VOper:=[
 ⟨some 5,.move (.t 0),none,[]⟩,
 ⟨some 6,.move (.t 1),none,[]⟩,
 ⟨some 7,.call false (.c (.fn 159 [])) [.t 5,.t 6],none,[]⟩,
 ⟨some 8,.bin .eql (.t 7) (.c (.d (.int .i64 0))),none,[]⟩,
 ⟨some 4,.move (.t 8),none,[]⟩]
def qCp:VFn:=⟨2,[.tmp 4],(.seq (.region false 0 [0,1] qy0) (.seq (.region false 0 [4] qyZ) .ret))⟩
def qyY:List VOper:=[
 ⟨some 4,.alloc 0 [.int .i64 0,.int .i64 0,.sl .nil []],none,[]⟩]
def qyX:List VOper:=[
 ⟨some 5,.call true (.c (.fn 155 [])) [],none,[]⟩,
 ⟨some 6,.move (.t 0),none,[]⟩,
 ⟨some 7,.move (.t 1),none,[]⟩,
 ⟨some 8,.call false (.c (.fn 166 [])) [.t 6,.c (.d (.int .i64 2)),.t 7],none,[]⟩,
 ⟨some 9,.call true (.c (.fn 153 [])) [.t 5,.t 8],none,[]⟩,
 ⟨none,.store false 3 (.t 4) (.t 9),none,[]⟩]
def qCo:VFn:=⟨2,[.cell 4 true 3],(.seq (.region false 1 [0,1,4] qyY) (.seq (.region false 0 [4] qyX) .ret))⟩
def qyW:List VOper:=[
 ⟨some 4,.alloc 0 [.int .i64 0,.int .i64 0,.sl .nil []],none,[]⟩]
def qyV:List VOper:=[
 ⟨some 5,.move (.t 0),none,[]⟩,
 ⟨some 6,.move (.t 1),none,[]⟩,
 ⟨some 7,.build [.int .i64 0,.int .i64 0,.sl .nil []] [(0,1,.t 5),(2,1,.t 6)],none,[]⟩,
 ⟨none,.store false 3 (.t 4) (.t 7),none,[]⟩]
def v164:VFn:=⟨2,[.cell 4 true 3],(.seq (.region false 1 [0,1,4] qyW) (.seq (.region false 0 [4] qyV) .ret))⟩
def qt6:List VOper:=[
 ⟨some 2,.move (.c (.d (.int .i64 0))),none,[]⟩]
def qt5:List VOper:=[
 ⟨some 4,.move (.t 0),none,[]⟩,
 ⟨some 5,.move (.t 0),none,[]⟩,
 ⟨some 6,.nilCheck (.t 5),none,[]⟩,
 ⟨some 7,.fieldAddr 2 (.t 6),none,[]⟩,
 ⟨some 8,.load false 1 (.t 7),none,[]⟩,
 ⟨some 9,.bin .mul (.t 8) (.c (.d (.int .i64 6364136223846793005))),none,[]⟩,
 ⟨some 10,.bin .add (.t 9) (.c (.d (.int .i64 1442695040888963407))),none,[]⟩,
 ⟨some 11,.nilCheck (.t 4),none,[]⟩,
 ⟨some 12,.fieldAddr 2 (.t 11),none,[]⟩,
 ⟨none,.store false 1 (.t 12) (.t 10),none,[]⟩]
def qt4:List VOper:=[
 ⟨some 13,.move (.t 0),none,[]⟩,
 ⟨some 14,.nilCheck (.t 13),none,[0]⟩,
 ⟨some 15,.fieldAddr 2 (.t 14),none,[1]⟩,
 ⟨some 16,.load false 1 (.t 15),none,[2]⟩,
 ⟨some 17,.bin .shr (.t 16) (.c (.d (.int .u64 33))),none,[3]⟩,
 ⟨some 18,.move (.t 0),none,[]⟩,
 ⟨some 19,.nilCheck (.t 18),none,[5]⟩,
 ⟨some 20,.fieldAddr 2 (.t 19),none,[6]⟩,
 ⟨some 21,.load false 1 (.t 20),none,[7]⟩,
 ⟨some 22,.bin .shr (.t 21) (.c (.d (.int .u64 45))),none,[8]⟩,
 ⟨some 23,.bin .xor (.t 17) (.t 22),none,[4,9]⟩,
 ⟨some 24,.bin .and (.t 23) (.c (.d (.int .i64 255))),none,[10]⟩,
 ⟨some 3,.move (.t 24),none,[0,1,2,3,4,5,6,7,8,9,10,11]⟩]
def qt3:List VOper:=[
 ⟨some 25,.move (.t 0),none,[]⟩,
 ⟨some 26,.nilCheck (.t 25),none,[0]⟩,
 ⟨some 27,.fieldAddr 1 (.t 26),none,[1]⟩,
 ⟨some 28,.load false 1 (.t 27),none,[2]⟩,
 ⟨some 29,.move (.t 0),none,[]⟩,
 ⟨some 30,.nilCheck (.t 29),none,[4]⟩,
 ⟨some 31,.fieldAddr 0 (.t 30),none,[5]⟩,
 ⟨some 32,.load false 1 (.t 31),none,[6]⟩,
 ⟨some 33,.len false (.t 32),none,[7]⟩,
 ⟨some 34,.bin .lss (.t 28) (.t 33),none,[3,8]⟩]
def qt2:List VOper:=[
 ⟨some 35,.move (.t 3),none,[]⟩,
 ⟨some 36,.move (.t 0),none,[]⟩,
 ⟨some 37,.nilCheck (.t 36),none,[1]⟩,
 ⟨some 38,.fieldAddr 0 (.t 37),none,[2]⟩,
 ⟨some 39,.load false 1 (.t 38),none,[3]⟩,
 ⟨some 40,.move (.t 0),none,[]⟩,
 ⟨some 41,.nilCheck (.t 40),none,[5]⟩,
 ⟨some 42,.fieldAddr 1 (.t 41),none,[6]⟩,
 ⟨some 43,.load false 1 (.t 42),none,[7]⟩,
 ⟨some 44,.indexAddr 1 none (.t 39) (.t 43),none,[4,8]⟩,
 ⟨some 45,.load false 1 (.t 44),none,[9]⟩,
 ⟨some 46,.conv (.kind .i64) (.t 45),none,[10]⟩,
 ⟨some 47,.bin .add (.t 35) (.t 46),none,[0,11]⟩,
 ⟨some 48,.bin .and (.t 47) (.c (.d (.int .i64 255))),none,[12]⟩,
 ⟨some 3,.move (.t 48),none,[0,1,2,3,4,5,6,7,8,9,10,11,12,13]⟩]
def qt1:List VOper:=[
 ⟨some 49,.move (.t 0),none,[]⟩,
 ⟨some 50,.move (.t 0),none,[]⟩,
 ⟨some 51,.nilCheck (.t 50),none,[]⟩,
 ⟨some 52,.fieldAddr 1 (.t 51),none,[]⟩,
 ⟨some 53,.load false 1 (.t 52),none,[]⟩,
 ⟨some 54,.bin .add (.t 53) (.c (.d (.int .i64 1))),none,[]⟩,
 ⟨some 55,.nilCheck (.t 49),none,[]⟩,
 ⟨some 56,.fieldAddr 1 (.t 55),none,[]⟩,
 ⟨none,.store false 1 (.t 56) (.t 54),none,[]⟩]
def qt0:List VOper:=[
 ⟨some 57,.move (.t 3),none,[]⟩,
 ⟨some 2,.move (.t 57),none,[]⟩]
def qAF:VFn:=⟨1,[.tmp 2],(.seq (.region false 0 [0] qt6) (.seq (.region false 0 [0] qt5) (.seq (.region true 0 [0,3] qt4) (.seq (.seq (.region true 0 [0,3,34] qt3) (.cond (.t 34) (.seq (.region true 0 [0,3] qt2) (.region false 0 [3] qt1)) .skip)) (.seq (.region false 0 [2] qt0) .ret)))))⟩
def qtZ:List VOper:=[
 ⟨some 6,.alloc 0 [.int .i64 0,.int .i64 0,.sl .nil []],none,[]⟩]
def qkd:List VOper:=[
 ⟨some 9,.move (.t 1),none,[]⟩,
 ⟨some 10,.bin .eql (.t 9) (.c (.d (.int .i64 0))),none,[]⟩,
 ⟨some 11,.move (.t 10),none,[]⟩,
 ⟨some 12,.move (.t 0),some (11,false),[]⟩,
 ⟨some 13,.call false (.c (.fn 162 [])) [.t 12,.c (.d (.int .i64 3))],some (11,false),[]⟩,
 ⟨some 14,.pick (.t 11) (.c (.d (.bool true))) (.t 13),none,[]⟩]
def qmp:List VOper:=[
 ⟨some 15,.move (.t 2),none,[]⟩,
 ⟨some 16,.bin .gtr (.t 15) (.c (.d (.int .i64 0))),none,[]⟩,
 ⟨some 17,.move (.t 16),none,[]⟩,
 ⟨some 18,.move (.t 0),some (17,true),[]⟩,
 ⟨some 19,.call false (.c (.fn 162 [])) [.t 18,.c (.d (.int .i64 2))],some (17,true),[]⟩,
 ⟨some 20,.pick (.t 17) (.t 19) (.c (.d (.bool false))),none,[]⟩]
def qtY:List VOper:=[
 ⟨some 21,.move (.t 0),none,[]⟩,
 ⟨some 22,.move (.t 2),none,[]⟩,
 ⟨some 23,.call false (.c (.fn 159 [])) [.t 21,.t 22],none,[]⟩,
 ⟨some 24,.call true (.c (.fn 147 [])) [.t 23],none,[]⟩,
 ⟨none,.store false 3 (.t 6) (.t 24),none,[]⟩]
def qpp:List VOper:=[
 ⟨some 25,.move (.t 0),none,[]⟩,
 ⟨some 26,.call false (.c (.fn 159 [])) [.t 25,.c (.d (.int .i64 2))],none,[]⟩,
 ⟨some 27,.bin .add (.c (.d (.int .i64 1))) (.t 26),none,[]⟩,
 ⟨some 28,.build [.int .i64 0,.int .i64 0,.sl .nil []] [(0,1,.t 27)],none,[]⟩,
 ⟨none,.store false 3 (.t 6) (.t 28),none,[]⟩]
def qpo:List VOper:=[
 ⟨some 29,.move (.t 0),none,[]⟩,
 ⟨some 30,.buildSlice 1 (.int .i64 0) 5 [(0,.c (.d (.int .i64 3))),(1,.c (.d (.int .i64 4))),(2,.c (.d (.int .i64 5))),(3,.c (.d (.int .i64 5))),(4,.c (.d (.int .i64 6)))],none,[]⟩,
 ⟨some 31,.call false (.c (.fn 160 [])) [.t 29,.t 30],none,[]⟩,
 ⟨some 7,.move (.t 31),none,[]⟩]
def qpn:List VOper:=[
 ⟨some 32,.move (.t 0),none,[]⟩,
 ⟨some 33,.move (.t 1),none,[]⟩,
 ⟨some 34,.bin .sub (.t 33) (.c (.d (.int .i64 1))),none,[]⟩,
 ⟨some 35,.move (.t 2),none,[]⟩,
 ⟨some 36,.call false (.c (.fn 166 [])) [.t 32,.t 34,.t 35],none,[]⟩,
 ⟨some 37,.buildSlice 3 (.agg [.int .i64 0,.int .i64 0,.sl .nil []]) 1 [(0,.t 36)],none,[]⟩,
 ⟨some 8,.move (.t 37),none,[]⟩]
def qpm:List VOper:=[
 ⟨some 38,.move (.t 7),none,[]⟩,
 ⟨some 39,.bin .gtr (.t 38) (.c (.d (.int .i64 3))),none,[]⟩]
def qpl:List VOper:=[
 ⟨some 40,.move (.t 8),none,[]⟩,
 ⟨some 41,.move (.t 0),none,[]⟩,
 ⟨some 42,.move (.t 1),none,[]⟩,
 ⟨some 43,.bin .sub (.t 42) (.c (.d (.int .i64 1))),none,[]⟩,
 ⟨some 44,.move (.t 2),none,[]⟩,
 ⟨some 45,.call false (.c (.fn 166 [])) [.t 41,.t 43,.t 44],none,[]⟩,
 ⟨some 46,.buildSlice 3 (.agg [.int .i64 0,.int .i64 0,.sl .nil []]) 1 [(0,.t 45)],none,[]⟩,
 ⟨some 47,.append 3 40 (.t 40) (.t 46),none,[]⟩,
 ⟨some 8,.move (.t 47),none,[]⟩]
def qpk:List VOper:=[
 ⟨some 48,.move (.t 7),none,[]⟩,
 ⟨some 49,.move (.t 8),none,[]⟩,
 ⟨some 50,.call true (.c (.fn 164 [])) [.t 48,.t 49],none,[]⟩,
 ⟨none,.store false 3 (.t 6) (.t 50),none,[]⟩]
def qCn:VFn:=⟨3,[.cell 6 true 3],(.seq (.region false 1 [0,1,2,6] qtZ) (.seq (.seq (.region false 0 [0,1,2,6,14] qkd) (.cond (.t 14) (.seq (.seq (.region false 0 [0,2,6,20] qmp) (.cond (.t 20) (.seq (.region false 0 [6] qtY) .ret) .skip)) (.seq (.region false 0 [6] qpp) .ret)) .skip)) (.seq (.region false 0 [0,1,2,6,7] qpo) (.seq (.region false 0 [0,1,2,6,7,8] qpn) (.seq (.seq (.region false 0 [0,1,2,6,7,8,39] qpm) (.cond (.t 39) (.region false 0 [6,7,8] qpl) .skip)) (.seq (.region false 0 [6] qpk) .ret))))))⟩
def qhA:List VOper:=[
 ⟨some 4,.box 0 (.t 1),none,[]⟩,
 ⟨some 5,.box 1 (.t 2),none,[]⟩,
 ⟨some 6,.move (.c (.d (.bool false))),none,[]⟩]
def qhz:List VOper:=[
 ⟨some 11,.move (.t 0),none,[]⟩,
 ⟨some 12,.load true 3 (.t 4),none,[]⟩,
 ⟨some 13,.call true (.c (.fn 70 [])) [.t 11,.t 12],none,[]⟩,
 ⟨some 14,.not (.t 13),none,[]⟩,
 ⟨some 15,.move (.t 14),none,[]⟩,
 ⟨some 16,.move (.t 0),some (15,false),[]⟩,
 ⟨some 17,.load true 3 (.t 5),some (15,false),[]⟩,
 ⟨some 18,.call true (.c (.fn 70 [])) [.t 16,.t 17],some (15,false),[]⟩,
 ⟨some 19,.not (.t 18),some (15,false),[]⟩,
 ⟨some 20,.pick (.t 15) (.c (.d (.bool true))) (.t 19),none,[]⟩]
def qhy:List VOper:=[
 ⟨some 6,.move (.c (.d (.bool false))),none,[]⟩]
def qkc:List VOper:=[
 ⟨some 21,.load true 3 (.t 5),none,[]⟩,
 ⟨some 22,.call true (.c (.fn 104 [])) [.t 21],none,[]⟩,
 ⟨some 23,.len false (.t 22),none,[]⟩,
 ⟨some 24,.move (.c (.d (.int .i64 0))),none,[]⟩]
def qpj:List VOper:=[
 ⟨some 25,.bin .lss (.t 24) (.t 23),none,[]⟩]
def qpi:List VOper:=[
 ⟨some 26,.indexAddr 1 none (.t 22) (.t 24),none,[]⟩,
 ⟨some 27,.load false 1 (.t 26),none,[]⟩,
 ⟨some 8,.move (.t 27),none,[]⟩]
def qtX:List VOper:=[
 ⟨some 28,.load true 3 (.t 4),none,[]⟩,
 ⟨some 29,.move (.t 8),none,[]⟩,
 ⟨some 30,.call true (.c (.fn 73 [])) [.t 28,.t 29],none,[0,1]⟩,
 ⟨some 31,.load true 3 (.t 5),none,[]⟩,
 ⟨some 32,.move (.t 8),none,[]⟩,
 ⟨some 33,.call true (.c (.fn 73 [])) [.t 31,.t 32],none,[2,3,4]⟩,
 ⟨some 34,.bin .lss (.t 30) (.t 33),none,[2,5]⟩]
def qph:List VOper:=[
 ⟨some 6,.move (.c (.d (.bool false))),none,[]⟩]
def qpg:List VOper:=[
 ⟨some 35,.bin .add (.t 24) (.c (.d (.int .i64 1))),none,[]⟩,
 ⟨some 24,.move (.t 35),none,[]⟩]
def qkB:VCode:=(.seq (.region false 0 [0,4,5,22,23,24,25] qpj) (.seq (.cond (.t 25) .skip (.exit 0)) (.seq (.block 1 (.seq (.region false 0 [0,4,5,8,22,23,24] qpi) (.seq (.region true 0 [0,4,5,22,23,24,34] qtX) (.cond (.t 34) (.seq (.region false 0 [6] qph) .ret) .skip)))) (.region false 0 [0,4,5,22,23,24] qpg))))
def qtW:List VOper:=[
 ⟨some 36,.move (.t 0),none,[]⟩,
 ⟨some 37,.load true 3 (.t 4),none,[]⟩,
 ⟨some 38,.call true (.c (.fn 118 [])) [.t 36,.t 37],none,[0,1]⟩,
 ⟨some 39,.move (.t 0),none,[]⟩,
 ⟨some 40,.load true 3 (.t 5),none,[]⟩,
 ⟨some 41,.call true (.c (.fn 118 [])) [.t 39,.t 40],none,[2,3,4]⟩,
 ⟨some 9,.move (.t 38),none,[0,1,2,5]⟩,
 ⟨some 10,.move (.t 41),none,[0,1,2,3,4,5,6]⟩]
def qet:List VOper:=[
 ⟨some 42,.move (.t 9),none,[]⟩,
 ⟨some 43,.move (.t 10),none,[]⟩,
 ⟨some 44,.bin .gtr (.t 42) (.t 43),none,[]⟩,
 ⟨some 45,.move (.t 44),none,[]⟩,
 ⟨some 46,.move (.t 9),some (45,false),[]⟩,
 ⟨some 47,.move (.t 10),some (45,false),[]⟩,
 ⟨some 48,.bin .eql (.t 46) (.t 47),some (45,false),[]⟩,
 ⟨some 49,.move (.t 48),some (45,false),[]⟩,
 ⟨some 50,.load true 3 (.t 4),some (49,true),[]⟩,
 ⟨some 51,.call true (.c (.fn 103 [])) [.t 50],some (49,true),[]⟩,
 ⟨some 52,.pick (.t 49) (.t 51) (.c (.d (.bool false))),some (45,false),[]⟩,
 ⟨some 53,.move (.t 52),some (45,false),[]⟩,
 ⟨some 54,.load true 3 (.t 5),some (53,true),[]⟩,
 ⟨some 55,.call true (.c (.fn 103 [])) [.t 54],some (53,true),[]⟩,
 ⟨some 56,.pick (.t 53) (.t 55) (.c (.d (.bool false))),some (45,false),[]⟩,
 ⟨some 57,.move (.t 56),some (45,false),[]⟩,
 ⟨some 58,.load true 3 (.t 5),some (57,true),[]⟩,
 ⟨some 59,.load true 3 (.t 4),some (57,true),[]⟩,
 ⟨some 60,.call true (.c (.fn 79 [])) [.t 58,.t 59],some (57,true),[]⟩,
 ⟨some 61,.pick (.t 57) (.t 60) (.c (.d (.bool false))),some (45,false),[]⟩,
 ⟨some 62,.pick (.t 45) (.c (.d (.bool true))) (.t 61),none,[]⟩,
 ⟨some 6,.move (.t 62),none,[]⟩]
def qxi:VFn:=⟨3,[.tmp 6],(.seq (.region false 2 [0,4,5] qhA) (.seq (.seq (.region false 0 [0,4,5,20] qhz) (.cond (.t 20) (.seq (.region false 0 [6] qhy) .ret) .skip)) (.seq (.seq (.region false 0 [0,4,5,22,23,24] qkc) (.block 0 (.loop [0,4,5,22,23,24] qkB))) (.seq (.region true 0 [4,5,9,10] qtW) (.seq (.region false 0 [6] qet) .ret)))))⟩
def qhx:List VOper:=[
 ⟨some 4,.box 0 (.t 1),none,[]⟩,
 ⟨some 5,.box 1 (.t 2),none,[]⟩,
 ⟨some 6,.move (.c (.d (.bool false))),none,[]⟩]
def qhw:List VOper:=[
 ⟨some 11,.move (.t 0),none,[]⟩,
 ⟨some 12,.load true 3 (.t 4),none,[]⟩,
 ⟨some 13,.call true (.c (.fn 80 [])) [.t 11,.t 12],none,[]⟩,
 ⟨some 14,.not (.t 13),none,[]⟩,
 ⟨some 15,.move (.t 14),none,[]⟩,
 ⟨some 16,.move (.t 0),some (15,false),[]⟩,
 ⟨some 17,.load true 3 (.t 5),some (15,false),[]⟩,
 ⟨some 18,.call true (.c (.fn 80 [])) [.t 16,.t 17],some (15,false),[]⟩,
 ⟨some 19,.not (.t 18),some (15,false),[]⟩,
 ⟨some 20,.pick (.t 15) (.c (.d (.bool true))) (.t 19),none,[]⟩]
def qhv:List VOper:=[
 ⟨some 6,.move (.c (.d (.bool false))),none,[]⟩]
def qkb:List VOper:=[
 ⟨some 21,.load true 3 (.t 5),none,[]⟩,
 ⟨some 22,.call true (.c (.fn 110 [])) [.t 21],none,[]⟩,
 ⟨some 7,.move (.t 22),none,[]⟩]
def qka:List VOper:=[
 ⟨some 8,.move (.c (.d (.int .i64 0))),none,[]⟩]
def qpf:List VOper:=[
 ⟨some 23,.move (.t 8),none,[]⟩,
 ⟨some 24,.move (.t 7),none,[]⟩,
 ⟨some 25,.len false (.t 24),none,[]⟩,
 ⟨some 26,.bin .lss (.t 23) (.t 25),none,[]⟩]
def qtV:List VOper:=[
 ⟨some 29,.load true 3 (.t 4),none,[]⟩,
 ⟨some 30,.move (.t 7),none,[]⟩,
 ⟨some 31,.move (.t 8),none,[]⟩,
 ⟨some 32,.indexAddr 1 none (.t 30) (.t 31),none,[1,2]⟩,
 ⟨some 33,.load false 1 (.t 32),none,[3]⟩,
 ⟨some 34,.call true (.c (.fn 81 [])) [.t 29,.t 33],none,[0,4]⟩,
 ⟨some 35,.load true 3 (.t 5),none,[]⟩,
 ⟨some 36,.move (.t 7),none,[]⟩,
 ⟨some 37,.move (.t 8),none,[]⟩,
 ⟨some 38,.indexAddr 1 none (.t 36) (.t 37),none,[7,8]⟩,
 ⟨some 39,.load false 1 (.t 38),none,[9]⟩,
 ⟨some 40,.call true (.c (.fn 81 [])) [.t 35,.t 39],none,[5,6,10]⟩,
 ⟨some 41,.bin .lss (.t 34) (.t 40),none,[5,11]⟩]
def qpd:List VOper:=[
 ⟨some 6,.move (.c (.d (.bool false))),none,[]⟩]
def qpe:List VOper:=[
 ⟨some 27,.move (.t 8),none,[]⟩,
 ⟨some 28,.bin .add (.t 27) (.c (.d (.int .i64 1))),none,[]⟩,
 ⟨some 8,.move (.t 28),none,[]⟩]
def qkA:VCode:=(.seq (.seq (.region false 0 [0,4,5,7,8,26] qpf) (.cond (.t 26) .skip (.exit 0))) (.seq (.block 1 (.seq (.region true 0 [0,4,5,7,8,41] qtV) (.cond (.t 41) (.seq (.region false 0 [6] qpd) .ret) .skip))) (.region false 0 [0,4,5,7,8] qpe)))
def qtU:List VOper:=[
 ⟨some 42,.move (.t 0),none,[]⟩,
 ⟨some 43,.load true 3 (.t 4),none,[]⟩,
 ⟨some 44,.call true (.c (.fn 117 [])) [.t 42,.t 43],none,[0,1]⟩,
 ⟨some 45,.move (.t 0),none,[]⟩,
 ⟨some 46,.load true 3 (.t 5),none,[]⟩,
 ⟨some 47,.call true (.c (.fn 117 [])) [.t 45,.t 46],none,[2,3,4]⟩,
 ⟨some 9,.move (.t 44),none,[0,1,2,5]⟩,
 ⟨some 10,.move (.t 47),none,[0,1,2,3,4,5,6]⟩]
def qes:List VOper:=[
 ⟨some 48,.move (.t 9),none,[]⟩,
 ⟨some 49,.move (.t 10),none,[]⟩,
 ⟨some 50,.bin .gtr (.t 48) (.t 49),none,[]⟩,
 ⟨some 51,.move (.t 50),none,[]⟩,
 ⟨some 52,.move (.t 9),some (51,false),[]⟩,
 ⟨some 53,.move (.t 10),some (51,false),[]⟩,
 ⟨some 54,.bin .eql (.t 52) (.t 53),some (51,false),[]⟩,
 ⟨some 55,.move (.t 54),some (51,false),[]⟩,
 ⟨some 56,.load true 3 (.t 4),some (55,true),[]⟩,
 ⟨some 57,.call true (.c (.fn 102 [])) [.t 56],some (55,true),[]⟩,
 ⟨some 58,.pick (.t 55) (.t 57) (.c (.d (.bool false))),some (51,false),[]⟩,
 ⟨some 59,.move (.t 58),some (51,false),[]⟩,
 ⟨some 60,.load true 3 (.t 5),some (59,true),[]⟩,
 ⟨some 61,.call true (.c (.fn 102 [])) [.t 60],some (59,true),[]⟩,
 ⟨some 62,.pick (.t 59) (.t 61) (.c (.d (.bool false))),some (51,false),[]⟩,
 ⟨some 63,.move (.t 62),some (51,false),[]⟩,
 ⟨some 64,.load true 3 (.t 5),some (63,true),[]⟩,
 ⟨some 65,.load true 3 (.t 4),some (63,true),[]⟩,
 ⟨some 66,.call true (.c (.fn 84 [])) [.t 64,.t 65],some (63,true),[]⟩,
 ⟨some 67,.pick (.t 63) (.t 66) (.c (.d (.bool false))),some (51,false),[]⟩,
 ⟨some 68,.pick (.t 51) (.c (.d (.bool true))) (.t 67),none,[]⟩,
 ⟨some 6,.move (.t 68),none,[]⟩]
def qxh:VFn:=⟨3,[.tmp 6],(.seq (.region false 2 [0,4,5] qhx) (.seq (.seq (.region false 0 [0,4,5,20] qhw) (.cond (.t 20) (.seq (.region false 0 [6] qhv) .ret) .skip)) (.seq (.region false 0 [0,4,5,7] qkb) (.seq (.seq (.region false 0 [0,4,5,7,8] qka) (.block 0 (.loop [0,4,5,7,8] qkA))) (.seq (.region true 0 [4,5,9,10] qtU) (.seq (.region false 0 [6] qes) .ret))))))⟩
def qpc:List VOper:=[
 ⟨some 2,.move (.c (.d (.sl .nil []))),none,[]⟩,
 ⟨some 3,.alloc 0 [.int .i64 0,.int .i64 0,.sl .nil []],none,[]⟩,
 ⟨some 4,.alloc 1 [.int .i64 0,.int .i64 0,.sl .nil []],none,[]⟩]
def qpb:List VOper:=[
 ⟨some 9,.move (.t 0),none,[]⟩,
 ⟨some 10,.call false (.c (.fn 156 [])) [.t 9],none,[]⟩,
 ⟨some 5,.move (.t 10),none,[]⟩]
def qpa:List VOper:=[
 ⟨some 11,.move (.t 5),none,[]⟩,
 ⟨some 12,.call false (.c (.fn 159 [])) [.t 11,.c (.d (.int .i64 3))],none,[]⟩,
 ⟨some 6,.move (.t 12),none,[]⟩]
def qo9:List VOper:=[
 ⟨some 13,.move (.t 5),none,[]⟩,
 ⟨some 14,.move (.t 6),none,[]⟩,
 ⟨some 15,.call false (.c (.fn 163 [])) [.t 13,.t 14],none,[]⟩,
 ⟨some 7,.alloc 0 [.int .i64 0,.int .i64 0,.sl .nil []],none,[]⟩,
 ⟨none,.store false 3 (.t 7) (.t 15),none,[]⟩]
def qo8:List VOper:=[
 ⟨some 16,.move (.t 5),none,[]⟩,
 ⟨some 17,.move (.t 6),none,[]⟩,
 ⟨some 18,.call false (.c (.fn 163 [])) [.t 16,.t 17],none,[]⟩,
 ⟨some 8,.alloc 0 [.int .i64 0,.int .i64 0,.sl .nil []],none,[]⟩,
 ⟨none,.store false 3 (.t 8) (.t 18),none,[]⟩]
def qo7:List VOper:=[
 ⟨some 19,.move (.t 5),none,[]⟩,
 ⟨some 20,.call false (.c (.fn 159 [])) [.t 19,.c (.d (.int .i64 8))],none,[]⟩]
def qo6:List VOper:=[
 ⟨some 22,.bin .eql (.t 20) (.c (.d (.int .i64 0))),none,[]⟩,
 ⟨some 21,.move (.t 22),none,[]⟩]
def qo5:List VOper:=[
 ⟨some 23,.move (.t 5),none,[]⟩,
 ⟨some 24,.callS 23 (.c (.fn 161 [])) [.t 23],none,[]⟩,
 ⟨none,.store false 3 (.t 8) (.t 24),none,[]⟩]
def qo4:List VOper:=[
 ⟨some 26,.bin .eql (.t 20) (.c (.d (.int .i64 1))),none,[]⟩,
 ⟨some 25,.move (.t 26),none,[]⟩]
def qo3:List VOper:=[
 ⟨some 27,.load true 3 (.t 7),none,[]⟩,
 ⟨some 28,.call true (.c (.fn 146 [])) [.t 27],none,[]⟩,
 ⟨none,.store false 3 (.t 8) (.t 28),none,[]⟩]
def qn7:List VOper:=[
 ⟨some 29,.call true (.c (.fn 155 [])) [],none,[]⟩,
 ⟨some 30,.load true 3 (.t 7),none,[]⟩,
 ⟨some 31,.load true 3 (.t 8),none,[]⟩,
 ⟨some 2,.move (.t 29),none,[0]⟩,
 ⟨none,.storeN 3 (.t 3) (.t 30) [8],none,[0,1,3]⟩,
 ⟨none,.store false 3 (.t 4) (.t 31),none,[0,1,2,3,4]⟩]
def qwr:VFn:=⟨1,[.tmp 2,.cell 3 true 3,.cell 4 true 3],(.seq (.region false 2 [0,3,4] qpc) (.seq (.region false 0 [3,4,5] qpb) (.seq (.region false 0 [3,4,5,6] qpa) (.seq (.region false 1 [3,4,5,6,7] qo9) (.seq (.region false 1 [3,4,5,7,8] qo8) (.seq (.seq (.region false 0 [3,4,5,7,8,20] qo7) (.block 0 (.seq (.region false 0 [3,4,5,7,8,20,21] qo6) (.cond (.t 21) (.region false 0 [3,4,7,8] qo5) (.seq (.region false 0 [3,4,7,8,25] qo4) (.cond (.t 25) (.region false 0 [3,4,7,8] qo3) .skip)))))) (.seq (.region true 0 [2,3,4] qn7) .ret)))))))⟩
def qo2:List VOper:=[
 ⟨some 2,.move (.c (.d (.bool false))),none,[]⟩]
def qo1:List VOper:=[
 ⟨some 6,.move (.t 0),none,[]⟩,
 ⟨some 7,.call true (.c (.fn 133 [])) [.t 6],none,[]⟩]
def qo0:List VOper:=[
 ⟨some 2,.move (.c (.d (.bool true))),none,[]⟩]
def qoZ:List VOper:=[
 ⟨some 9,.move (.t 0),none,[]⟩,
 ⟨some 10,.call true (.c (.fn 365 [])) [.t 9],none,[]⟩,
 ⟨some 8,.move (.t 10),none,[]⟩,
 ⟨some 11,.extract (.t 8) 0,none,[]⟩,
 ⟨some 12,.extract (.t 8) 1,none,[]⟩,
 ⟨some 13,.extract (.t 8) 2,none,[]⟩,
 ⟨some 4,.alloc 0 [.int .i64 0,.int .i64 0,.sl .nil []],none,[]⟩,
 ⟨some 5,.alloc 1 [.int .i64 0,.int .i64 0,.sl .nil []],none,[]⟩,
 ⟨some 3,.move (.t 11),none,[]⟩,
 ⟨none,.store false 3 (.t 4) (.t 12),none,[]⟩,
 ⟨none,.store false 3 (.t 5) (.t 13),none,[]⟩]
def qoY:List VOper:=[
 ⟨some 14,.move (.t 3),none,[]⟩,
 ⟨some 15,.load true 3 (.t 4),none,[]⟩,
 ⟨some 16,.call true (.c (.fn 70 [])) [.t 14,.t 15],none,[]⟩,
 ⟨some 17,.not (.t 16),none,[]⟩,
 ⟨some 18,.move (.t 17),none,[]⟩,
 ⟨some 19,.move (.t 3),some (18,false),[]⟩,
 ⟨some 20,.load true 3 (.t 5),some (18,false),[]⟩,
 ⟨some 21,.call true (.c (.fn 70 [])) [.t 19,.t 20],some (18,false),[]⟩,
 ⟨some 22,.not (.t 21),some (18,false),[]⟩,
 ⟨some 23,.pick (.t 18) (.c (.d (.bool true))) (.t 22),none,[]⟩,
 ⟨some 24,.move (.t 23),none,[]⟩,
 ⟨some 25,.load true 3 (.t 4),some (24,false),[]⟩,
 ⟨some 26,.call true (.c (.fn 103 [])) [.t 25],some (24,false),[]⟩,
 ⟨some 27,.not (.t 26),some (24,false),[]⟩,
 ⟨some 28,.pick (.t 24) (.c (.d (.bool true))) (.t 27),none,[]⟩,
 ⟨some 29,.move (.t 28),none,[]⟩,
 ⟨some 30,.load true 3 (.t 5),some (29,false),[]⟩,
 ⟨some 31,.call true (.c (.fn 103 [])) [.t 30],some (29,false),[]⟩,
 ⟨some 32,.not (.t 31),some (29,false),[]⟩,
 ⟨some 33,.pick (.t 29) (.c (.d (.bool true))) (.t 32),none,[]⟩]
def qtS:List VOper:=[
 ⟨some 34,.move (.t 3),none,[]⟩,
 ⟨some 35,.load true 3 (.t 4),none,[]⟩,
 ⟨some 36,.load true 3 (.t 5),none,[]⟩,
 ⟨some 37,.call true (.c (.fn 178 [])) [.t 34,.t 35,.t 36],none,[0,1,2]⟩,
 ⟨some 38,.move (.t 3),none,[]⟩,
 ⟨some 39,.load true 3 (.t 4),none,[]⟩,
 ⟨some 40,.load true 3 (.t 5),none,[]⟩,
 ⟨some 41,.call true (.c (.fn 179 [])) [.t 38,.t 39,.t 40],none,[3,4,5,6]⟩,
 ⟨some 42,.eqB false (.t 37) (.t 41),none,[3,7]⟩,
 ⟨some 2,.move (.t 42),none,[0,1,2,3,4,5,6,7,8]⟩]
def qtR:List VOper:=[
 ⟨some 43,.move (.t 3),none,[]⟩,
 ⟨some 44,.load true 3 (.t 4),none,[]⟩,
 ⟨some 45,.load true 3 (.t 5),none,[]⟩,
 ⟨some 46,.call true (.c (.fn 178 [])) [.t 43,.t 44,.t 45],none,[0,1,2]⟩,
 ⟨some 47,.move (.t 46),none,[3]⟩,
 ⟨some 48,.move (.t 3),some (47,false),[4]⟩,
 ⟨some 49,.load true 3 (.t 5),some (47,false),[4]⟩,
 ⟨some 50,.load true 3 (.t 4),some (47,false),[4]⟩,
 ⟨some 51,.call true (.c (.fn 178 [])) [.t 48,.t 49,.t 50],some (47,false),[4,5,6,7]⟩,
 ⟨some 52,.pick (.t 47) (.c (.d (.bool true))) (.t 51),none,[4,8]⟩,
 ⟨some 53,.load true 3 (.t 4),none,[]⟩,
 ⟨some 54,.load true 3 (.t 5),none,[]⟩,
 ⟨some 55,.call true (.c (.fn 4 [])) [.t 53,.t 54],none,[8,10,11]⟩,
 ⟨some 56,.eqB true (.t 52) (.t 55),none,[9,12]⟩,
 ⟨some 2,.move (.t 56),none,[0,1,2,3,4,5,6,7,8,9,10,11,12,13]⟩]
def qyM:VFn:=⟨1,[.tmp 2],(.seq (.region false 0 [0] qo2) (.seq (.seq (.region false 0 [0,7] qo1) (.cond (.t 7) (.seq (.region false 0 [2] qo0) .ret) .skip)) (.seq (.region false 2 [3,4,5] qoZ) (.seq (.seq (.region false 0 [3,4,5,33] qoY) (.cond (.t 33) (.seq (.region true 0 [2] qtS) .ret) .skip)) (.seq (.region true 0 [2] qtR) .ret)))))⟩
def qyU:List VOper:=[
 ⟨some 2,.move (.c (.d (.sl .nil []))),none,[]⟩,
 ⟨some 3,.alloc 0 [.int .i64 0,.int .i64 0,.sl .nil []],none,[]⟩,
 ⟨some 4,.alloc 1 [.int .i64 0,.int .i64 0,.sl .nil []],none,[]⟩]
def qyT:List VOper:=[
 ⟨some 9,.move (.t 0),none,[]⟩,
 ⟨some 10,.call true (.c (.fn 180 [])) [.t 9],none,[]⟩,
 ⟨some 8,.move (.t 10),none,[]⟩,
 ⟨some 11,.extract (.t 8) 0,none,[]⟩,
 ⟨some 12,.extract (.t 8) 1,none,[]⟩,
 ⟨some 13,.extract (.t 8) 2,none,[]⟩,
 ⟨some 6,.alloc 0 [.int .i64 0,.int .i64 0,.sl .nil []],none,[]⟩,
 ⟨some 7,.alloc 1 [.int .i64 0,.int .i64 0,.sl .nil []],none,[]⟩,
 ⟨some 5,.move (.t 11),none,[]⟩,
 ⟨none,.store false 3 (.t 6) (.t 12),none,[]⟩,
 ⟨none,.store false 3 (.t 7) (.t 13),none,[]⟩]
def qtQ:List VOper:=[
 ⟨some 14,.move (.t 5),none,[]⟩,
 ⟨some 15,.load true 3 (.t 6),none,[]⟩,
 ⟨some 16,.load true 3 (.t 7),none,[]⟩,
 ⟨some 2,.move (.t 14),none,[0]⟩,
 ⟨none,.storeN 3 (.t 3) (.t 15) [7],none,[0,1,3]⟩,
 ⟨none,.store false 3 (.t 4) (.t 16),none,[0,1,2,3,4]⟩]
def qCm:VFn:=⟨1,[.tmp 2,.cell 3 true 3,.cell 4 true 3],(.seq (.region false 2 [0,3,4] qyU) (.seq (.region false 2 [3,4,5,6,7] qyT) (.seq (.region true 0 [2,3,4] qtQ) .ret)))⟩
def look:List (Nat×VFn)->Nat->Option VFn
 | [],_=>none
 |(k,v)::r,n=>if n=k then some v else look r n
def qrY:List (Nat×VFn):=[(3,v3),(4,v4),(6,v6),(13,v13),(14,v14),(18,v18),(19,v19),(22,v22),(23,v23),(24,v24),(25,v25),(29,v29),(30,v30),(31,v31),(33,v33),(34,v34),(47,v47),(53,v53),(54,v54),(55,v55),(56,v56),(59,v59),(60,v60),(61,v61),(62,v62),(70,v70),(73,v73),(74,v74),(75,v75),(77,v77),(78,v78),(79,v79),(80,v80),(81,v81),(82,v82),(83,v83),(84,v84),(85,v85),(102,qCC),(103,qCB),(104,qCA),(105,qAI),(106,qGl),(107,qGk),(108,qyO),(110,qCz),(111,qxj),(112,qyN),(117,qtr),(118,qtq),(133,qCy),(146,qAH),(147,qCx),(153,qCw),(154,qCv),(155,qCu),(156,qCt),(159,qCs),(160,qCr),(161,qCq),(162,qCp),(163,qCo),(164,v164),(165,qAF),(166,qCn),(178,qxi),(179,qxh),(180,qwr),(364,qyM),(365,qCm)]
def qAK:List (Nat×SFn):=[]
def qyz:List (Nat×Nat):=[(161,1)]
def qur:List (Nat×Nat)->Nat->Option Nat
 | [],_=>none
 |(k,v)::r,n=>if n=k then some v else qur r n
def qxY:List (Nat×(List DV->Option DV)):=[(106,qdy)]
def E:Env:=⟨look qrY,fun k=>(qjf qxY k).map qss,quq qAK,qur qyz⟩
theorem qKA:E.code 3=some v3:=by kernel_rfl
theorem qKz:E.code 4=some v4:=by kernel_rfl
theorem qKy:E.code 6=some v6:=by kernel_rfl
theorem qJG:E.code 13=some v13:=by kernel_rfl
theorem qJF:E.code 14=some v14:=by kernel_rfl
theorem qJE:E.code 18=some v18:=by kernel_rfl
theorem qJD:E.code 19=some v19:=by kernel_rfl
theorem qJC:E.code 22=some v22:=by kernel_rfl
theorem qJB:E.code 23=some v23:=by kernel_rfl
theorem qJA:E.code 24=some v24:=by kernel_rfl
theorem qJz:E.code 25=some v25:=by kernel_rfl
theorem qJy:E.code 29=some v29:=by kernel_rfl
theorem qJx:E.code 30=some v30:=by kernel_rfl
theorem qJw:E.code 31=some v31:=by kernel_rfl
theorem qJv:E.code 33=some v33:=by kernel_rfl
theorem qJu:E.code 34=some v34:=by kernel_rfl
theorem qJt:E.code 47=some v47:=by kernel_rfl
theorem qJs:E.code 53=some v53:=by kernel_rfl
theorem qJr:E.code 54=some v54:=by kernel_rfl
theorem qJq:E.code 55=some v55:=by kernel_rfl
theorem qJp:E.code 56=some v56:=by kernel_rfl
theorem qJo:E.code 59=some v59:=by kernel_rfl
theorem qJn:E.code 60=some v60:=by kernel_rfl
theorem qJm:E.code 61=some v61:=by kernel_rfl
theorem qJl:E.code 62=some v62:=by kernel_rfl
theorem qJk:E.code 70=some v70:=by kernel_rfl
theorem qJj:E.code 73=some v73:=by kernel_rfl
theorem qJi:E.code 74=some v74:=by kernel_rfl
theorem qJh:E.code 75=some v75:=by kernel_rfl
theorem qJg:E.code 77=some v77:=by kernel_rfl
theorem qJf:E.code 78=some v78:=by kernel_rfl
theorem qJe:E.code 79=some v79:=by kernel_rfl
theorem qJd:E.code 80=some v80:=by kernel_rfl
theorem qJc:E.code 81=some v81:=by kernel_rfl
theorem qJb:E.code 82=some v82:=by kernel_rfl
theorem qJa:E.code 83=some v83:=by kernel_rfl
theorem qI9:E.code 84=some v84:=by kernel_rfl
theorem qI8:E.code 85=some v85:=by kernel_rfl
theorem qG0:E.code 102=some qCC:=by kernel_rfl
theorem qGZ:E.code 103=some qCB:=by kernel_rfl
theorem qGY:E.code 104=some qCA:=by kernel_rfl
theorem qGX:E.code 105=some qAI:=by kernel_rfl
theorem qGW:E.code 106=some qGl:=by kernel_rfl
theorem qGV:E.code 107=some qGk:=by kernel_rfl
theorem qGU:E.code 108=some qyO:=by kernel_rfl
theorem qGT:E.code 110=some qCz:=by kernel_rfl
theorem qGS:E.code 111=some qxj:=by kernel_rfl
theorem qGR:E.code 112=some qyN:=by kernel_rfl
theorem qGQ:E.code 117=some qtr:=by kernel_rfl
theorem qGP:E.code 118=some qtq:=by kernel_rfl
theorem qGO:E.code 133=some qCy:=by kernel_rfl
theorem qGN:E.code 146=some qAH:=by kernel_rfl
theorem qGM:E.code 147=some qCx:=by kernel_rfl
theorem qGL:E.code 153=some qCw:=by kernel_rfl
theorem qGK:E.code 154=some qCv:=by kernel_rfl
theorem qGJ:E.code 155=some qCu:=by kernel_rfl
theorem qGI:E.code 156=some qCt:=by kernel_rfl
theorem qGH:E.code 159=some qCs:=by kernel_rfl
theorem qGG:E.code 160=some qCr:=by kernel_rfl
theorem qGF:E.code 161=some qCq:=by kernel_rfl
theorem qGE:E.code 162=some qCp:=by kernel_rfl
theorem qGD:E.code 163=some qCo:=by kernel_rfl
theorem qGC:E.code 164=some v164:=by kernel_rfl
theorem qGB:E.code 165=some qAF:=by kernel_rfl
theorem qGA:E.code 166=some qCn:=by kernel_rfl
theorem qGz:E.code 178=some qxi:=by kernel_rfl
theorem qGy:E.code 179=some qxh:=by kernel_rfl
theorem qGx:E.code 180=some qwr:=by kernel_rfl
theorem qGw:E.code 364=some qyM:=by kernel_rfl
theorem qGv:E.code 365=some qCm:=by kernel_rfl
end Go.Proofs.Ytfiakfiocdfpbaa.VS
