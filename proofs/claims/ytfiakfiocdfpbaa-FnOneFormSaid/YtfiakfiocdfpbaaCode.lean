/- The code of the functions that the laws reach, for the evaluator. -/
import Derived.Test.YtfiakfiocdfpbaaNat0
import Derived.KernelRfl
set_option linter.unusedVariables false
namespace Go.Proofs.Ytfiakfiocdfpbaa.VS
def qCL:List VOper:=[
 ⟨some 2,.box 0 (.t 0),none,[]⟩,
 ⟨some 3,.box 1 (.t 1),none,[]⟩,
 ⟨some 4,.move (.c (.d (.bool false))),none,[]⟩]
def qCK:List VOper:=[
 ⟨some 6,.fieldAddr 0 (.t 2),none,[]⟩,
 ⟨some 7,.load false 1 (.t 6),none,[]⟩,
 ⟨some 8,.fieldAddr 0 (.t 3),none,[]⟩,
 ⟨some 9,.load false 1 (.t 8),none,[]⟩,
 ⟨some 10,.bin .neq (.t 7) (.t 9),none,[]⟩,
 ⟨some 11,.move (.t 10),none,[]⟩,
 ⟨some 12,.fieldAddr 1 (.t 2),some (11,false),[]⟩,
 ⟨some 13,.load false 1 (.t 12),some (11,false),[]⟩,
 ⟨some 14,.fieldAddr 1 (.t 3),some (11,false),[]⟩,
 ⟨some 15,.load false 1 (.t 14),some (11,false),[]⟩,
 ⟨some 16,.bin .neq (.t 13) (.t 15),some (11,false),[]⟩,
 ⟨some 17,.pick (.t 11) (.c (.d (.bool true))) (.t 16),none,[]⟩,
 ⟨some 18,.move (.t 17),none,[]⟩,
 ⟨some 19,.fieldAddr 2 (.t 2),some (18,false),[]⟩,
 ⟨some 20,.load false 1 (.t 19),some (18,false),[]⟩,
 ⟨some 21,.len false (.t 20),some (18,false),[]⟩,
 ⟨some 22,.fieldAddr 2 (.t 3),some (18,false),[]⟩,
 ⟨some 23,.load false 1 (.t 22),some (18,false),[]⟩,
 ⟨some 24,.len false (.t 23),some (18,false),[]⟩,
 ⟨some 25,.bin .neq (.t 21) (.t 24),some (18,false),[]⟩,
 ⟨some 26,.pick (.t 18) (.c (.d (.bool true))) (.t 25),none,[]⟩]
def qCJ:List VOper:=[
 ⟨some 4,.move (.c (.d (.bool false))),none,[]⟩]
def qGU:List VOper:=[
 ⟨some 5,.move (.c (.d (.int .i64 0))),none,[]⟩]
def qEo:List VOper:=[
 ⟨some 27,.move (.t 5),none,[]⟩,
 ⟨some 28,.fieldAddr 2 (.t 2),none,[]⟩,
 ⟨some 29,.load false 1 (.t 28),none,[]⟩,
 ⟨some 30,.len false (.t 29),none,[]⟩,
 ⟨some 31,.bin .lss (.t 27) (.t 30),none,[]⟩]
def qFG:List VOper:=[
 ⟨some 34,.fieldAddr 2 (.t 2),none,[]⟩,
 ⟨some 35,.load false 1 (.t 34),none,[0]⟩,
 ⟨some 36,.move (.t 5),none,[]⟩,
 ⟨some 37,.indexAddr 3 none (.t 35) (.t 36),none,[1,2]⟩,
 ⟨some 38,.load true 3 (.t 37),none,[3]⟩,
 ⟨some 39,.fieldAddr 2 (.t 3),none,[]⟩,
 ⟨some 40,.load false 1 (.t 39),none,[5]⟩,
 ⟨some 41,.move (.t 5),none,[]⟩,
 ⟨some 42,.indexAddr 3 none (.t 40) (.t 41),none,[6,7]⟩,
 ⟨some 43,.load true 3 (.t 42),none,[8]⟩,
 ⟨some 44,.call true (.c (.fn 3 [])) [.t 38,.t 43],none,[4,9]⟩,
 ⟨some 45,.not (.t 44),none,[10]⟩]
def qFF:List VOper:=[
 ⟨some 4,.move (.c (.d (.bool false))),none,[]⟩]
def qFH:List VOper:=[
 ⟨some 32,.move (.t 5),none,[]⟩,
 ⟨some 33,.bin .add (.t 32) (.c (.d (.int .i64 1))),none,[]⟩,
 ⟨some 5,.move (.t 33),none,[]⟩]
def qEg:VCode:=(.seq (.seq (.region false 0 [2,3,5,31] qEo) (.cond (.t 31) .skip (.exit 0))) (.seq (.block 1 (.seq (.region true 0 [2,3,5,45] qFG) (.cond (.t 45) (.seq (.region false 0 [4] qFF) .ret) .skip))) (.region false 0 [2,3,5] qFH)))
def qFE:List VOper:=[
 ⟨some 4,.move (.c (.d (.bool true))),none,[]⟩]
def v3:VFn:=⟨2,[.tmp 4],(.seq (.region false 2 [2,3] qCL) (.seq (.seq (.region false 0 [2,3,26] qCK) (.cond (.t 26) (.seq (.region false 0 [4] qCJ) .ret) .skip)) (.seq (.seq (.region false 0 [2,3,5] qGU) (.block 0 (.loop [2,3,5] qEg))) (.seq (.region false 0 [4] qFE) .ret))))⟩
def qGT:List VOper:=[
 ⟨some 2,.box 0 (.t 0),none,[]⟩,
 ⟨some 3,.box 1 (.t 1),none,[]⟩,
 ⟨some 4,.move (.c (.d (.bool false))),none,[]⟩]
def qGS:List VOper:=[
 ⟨some 5,.load true 3 (.t 2),none,[]⟩,
 ⟨some 6,.load true 3 (.t 3),none,[]⟩,
 ⟨some 7,.call true (.c (.fn 6 [])) [.t 5,.t 6],none,[]⟩,
 ⟨some 8,.bin .eql (.t 7) (.c (.d (.int .i64 0))),none,[]⟩,
 ⟨some 4,.move (.t 8),none,[]⟩]
def v4:VFn:=⟨2,[.tmp 4],(.seq (.region false 2 [2,3] qGT) (.seq (.region false 0 [4] qGS) .ret))⟩
def qFD:List VOper:=[
 ⟨some 2,.box 0 (.t 0),none,[]⟩,
 ⟨some 3,.box 1 (.t 1),none,[]⟩,
 ⟨some 4,.move (.c (.d (.int .i64 0))),none,[]⟩]
def qFC:List VOper:=[
 ⟨some 9,.fieldAddr 0 (.t 2),none,[]⟩,
 ⟨some 10,.load false 1 (.t 9),none,[]⟩,
 ⟨some 11,.fieldAddr 0 (.t 3),none,[]⟩,
 ⟨some 12,.load false 1 (.t 11),none,[]⟩,
 ⟨some 13,.build [.int .i64 0,.int .i64 0] [(0,1,.t 10),(1,1,.t 12)],none,[]⟩,
 ⟨some 14,.fieldAddr 1 (.t 2),none,[]⟩,
 ⟨some 15,.load false 1 (.t 14),none,[]⟩,
 ⟨some 16,.fieldAddr 1 (.t 3),none,[]⟩,
 ⟨some 17,.load false 1 (.t 16),none,[]⟩,
 ⟨some 18,.build [.int .i64 0,.int .i64 0] [(0,1,.t 15),(1,1,.t 17)],none,[]⟩,
 ⟨some 19,.fieldAddr 2 (.t 2),none,[]⟩,
 ⟨some 20,.load false 1 (.t 19),none,[]⟩,
 ⟨some 21,.len false (.t 20),none,[]⟩,
 ⟨some 22,.fieldAddr 2 (.t 3),none,[]⟩,
 ⟨some 23,.load false 1 (.t 22),none,[]⟩,
 ⟨some 24,.len false (.t 23),none,[]⟩,
 ⟨some 25,.build [.int .i64 0,.int .i64 0] [(0,1,.t 21),(1,1,.t 24)],none,[]⟩,
 ⟨some 26,.buildSlice 2 (.agg [.int .i64 0,.int .i64 0]) 3 [(0,.t 13),(1,.t 18),(2,.t 25)],none,[]⟩,
 ⟨some 27,.len false (.t 26),none,[]⟩,
 ⟨some 28,.move (.c (.d (.int .i64 0))),none,[]⟩]
def qw7:List VOper:=[
 ⟨some 29,.bin .lss (.t 28) (.t 27),none,[]⟩]
def qAf:List VOper:=[
 ⟨some 30,.indexAddr 2 none (.t 26) (.t 28),none,[]⟩,
 ⟨some 31,.load true 2 (.t 30),none,[]⟩,
 ⟨some 6,.alloc 0 [.int .i64 0,.int .i64 0],none,[]⟩,
 ⟨none,.store false 2 (.t 6) (.t 31),none,[]⟩]
def qAe:List VOper:=[
 ⟨some 33,.indexAddr 1 (some 2) (.t 6) (.c (.d (.int .i64 0))),none,[]⟩,
 ⟨some 34,.load false 1 (.t 33),none,[]⟩,
 ⟨some 35,.indexAddr 1 (some 2) (.t 6) (.c (.d (.int .i64 1))),none,[]⟩,
 ⟨some 36,.load false 1 (.t 35),none,[]⟩,
 ⟨some 37,.bin .lss (.t 34) (.t 36),none,[]⟩,
 ⟨some 32,.move (.t 37),none,[]⟩]
def qAd:List VOper:=[
 ⟨some 4,.move (.c (.d (.int .i64 (-1)))),none,[]⟩]
def qCI:List VOper:=[
 ⟨some 39,.indexAddr 1 (some 2) (.t 6) (.c (.d (.int .i64 0))),none,[]⟩,
 ⟨some 40,.load false 1 (.t 39),none,[]⟩,
 ⟨some 41,.indexAddr 1 (some 2) (.t 6) (.c (.d (.int .i64 1))),none,[]⟩,
 ⟨some 42,.load false 1 (.t 41),none,[]⟩,
 ⟨some 43,.bin .gtr (.t 40) (.t 42),none,[]⟩,
 ⟨some 38,.move (.t 43),none,[]⟩]
def qCH:List VOper:=[
 ⟨some 4,.move (.c (.d (.int .i64 1))),none,[]⟩]
def qFB:List VOper:=[
 ⟨some 44,.bin .add (.t 28) (.c (.d (.int .i64 1))),none,[]⟩,
 ⟨some 28,.move (.t 44),none,[]⟩]
def qrE:VCode:=(.seq (.region false 0 [2,3,26,27,28,29] qw7) (.seq (.cond (.t 29) .skip (.exit 0)) (.seq (.block 1 (.seq (.region false 1 [2,3,6,26,27,28] qAf) (.block 2 (.seq (.region false 0 [2,3,6,26,27,28,32] qAe) (.cond (.t 32) (.seq (.region false 0 [4] qAd) .ret) (.seq (.region false 0 [2,3,26,27,28,38] qCI) (.cond (.t 38) (.seq (.region false 0 [4] qCH) .ret) .skip))))))) (.region false 0 [2,3,26,27,28] qFB))))
def qFA:List VOper:=[
 ⟨some 45,.fieldAddr 2 (.t 2),none,[]⟩,
 ⟨some 46,.load false 1 (.t 45),none,[]⟩,
 ⟨some 47,.len false (.t 46),none,[]⟩,
 ⟨some 48,.move (.c (.d (.int .i64 0))),none,[]⟩]
def qnU:List VOper:=[
 ⟨some 49,.bin .lss (.t 48) (.t 47),none,[]⟩]
def qs8:List VOper:=[
 ⟨some 50,.move (.t 48),none,[]⟩,
 ⟨some 7,.move (.t 50),none,[]⟩]
def qAh:List VOper:=[
 ⟨some 51,.fieldAddr 2 (.t 2),none,[]⟩,
 ⟨some 52,.load false 1 (.t 51),none,[0]⟩,
 ⟨some 53,.move (.t 7),none,[]⟩,
 ⟨some 54,.indexAddr 3 none (.t 52) (.t 53),none,[1,2]⟩,
 ⟨some 55,.load true 3 (.t 54),none,[3]⟩,
 ⟨some 56,.fieldAddr 2 (.t 3),none,[]⟩,
 ⟨some 57,.load false 1 (.t 56),none,[5]⟩,
 ⟨some 58,.move (.t 7),none,[]⟩,
 ⟨some 59,.indexAddr 3 none (.t 57) (.t 58),none,[6,7]⟩,
 ⟨some 60,.load true 3 (.t 59),none,[8]⟩,
 ⟨some 61,.call true (.c (.fn 6 [])) [.t 55,.t 60],none,[4,9]⟩,
 ⟨some 8,.move (.t 61),none,[0,1,2,3,4,5,6,7,8,9,10]⟩]
def qs7:List VOper:=[
 ⟨some 62,.move (.t 8),none,[]⟩,
 ⟨some 63,.bin .neq (.t 62) (.c (.d (.int .i64 0))),none,[]⟩]
def qs6:List VOper:=[
 ⟨some 64,.move (.t 8),none,[]⟩,
 ⟨some 4,.move (.t 64),none,[]⟩]
def qs5:List VOper:=[
 ⟨some 65,.bin .add (.t 48) (.c (.d (.int .i64 1))),none,[]⟩,
 ⟨some 48,.move (.t 65),none,[]⟩]
def qv2:VCode:=(.seq (.region false 0 [2,3,47,48,49] qnU) (.seq (.cond (.t 49) .skip (.exit 3)) (.seq (.block 4 (.seq (.region false 0 [2,3,7,47,48] qs8) (.seq (.region true 0 [2,3,8,47,48] qAh) (.seq (.region false 0 [2,3,8,47,48,63] qs7) (.cond (.t 63) (.seq (.region false 0 [4] qs6) .ret) .skip))))) (.region false 0 [2,3,47,48] qs5))))
def qAg:List VOper:=[
 ⟨some 4,.move (.c (.d (.int .i64 0))),none,[]⟩]
def v6:VFn:=⟨2,[.tmp 4],(.seq (.region false 2 [2,3] qFD) (.seq (.seq (.region false 0 [2,3,26,27,28] qFC) (.block 0 (.loop [2,3,26,27,28] qrE))) (.seq (.seq (.region false 0 [2,3,47,48] qFA) (.block 3 (.loop [2,3,47,48] qv2))) (.seq (.region false 0 [4] qAg) .ret))))⟩
def qCN:List VOper:=[
 ⟨some 4,.move (.c (.d (.bool false))),none,[]⟩]
def qCM:List VOper:=[
 ⟨some 5,.move (.t 1),none,[]⟩,
 ⟨some 6,.move (.t 0),none,[]⟩,
 ⟨some 7,.len false (.t 6),none,[]⟩,
 ⟨some 8,.bin .sub (.t 7) (.c (.d (.int .i64 1))),none,[]⟩,
 ⟨some 9,.call true (.c (.fn 30 [])) [.t 5,.c (.d (.int .i64 0)),.t 8],none,[]⟩,
 ⟨some 4,.move (.t 9),none,[]⟩]
def v29:VFn:=⟨2,[.tmp 4],(.seq (.region false 0 [0,1] qCN) (.seq (.region false 0 [4] qCM) .ret))⟩
def qAp:List VOper:=[
 ⟨some 6,.move (.c (.d (.bool false))),none,[]⟩]
def qAo:List VOper:=[
 ⟨some 7,.move (.t 0),none,[]⟩,
 ⟨some 8,.move (.t 1),none,[]⟩,
 ⟨some 9,.bin .geq (.t 7) (.t 8),none,[]⟩,
 ⟨some 10,.move (.t 9),none,[]⟩,
 ⟨some 11,.move (.t 0),some (10,true),[]⟩,
 ⟨some 12,.move (.t 2),some (10,true),[]⟩,
 ⟨some 13,.bin .leq (.t 11) (.t 12),some (10,true),[]⟩,
 ⟨some 14,.pick (.t 10) (.t 13) (.c (.d (.bool false))),none,[]⟩,
 ⟨some 6,.move (.t 14),none,[]⟩]
def v30:VFn:=⟨3,[.tmp 6],(.seq (.region false 0 [0,1,2] qAp) (.seq (.region false 0 [6] qAo) .ret))⟩
def qAn:List VOper:=[
 ⟨some 6,.move (.c (.d (.bool false))),none,[]⟩]
def qAm:List VOper:=[
 ⟨some 7,.move (.t 0),none,[]⟩,
 ⟨some 8,.move (.t 1),none,[]⟩,
 ⟨some 9,.bin .geq (.t 7) (.t 8),none,[]⟩,
 ⟨some 10,.move (.t 9),none,[]⟩,
 ⟨some 11,.move (.t 0),some (10,true),[]⟩,
 ⟨some 12,.move (.t 2),some (10,true),[]⟩,
 ⟨some 13,.bin .leq (.t 11) (.t 12),some (10,true),[]⟩,
 ⟨some 14,.pick (.t 10) (.t 13) (.c (.d (.bool false))),none,[]⟩,
 ⟨some 6,.move (.t 14),none,[]⟩]
def v31:VFn:=⟨3,[.tmp 6],(.seq (.region false 0 [0,1,2] qAn) (.seq (.region false 0 [6] qAm) .ret))⟩
def qAl:List VOper:=[
 ⟨some 4,.move (.c (.d (.bool false))),none,[]⟩]
def qAk:List VOper:=[
 ⟨some 5,.move (.t 1),none,[]⟩,
 ⟨some 6,.move (.t 0),none,[]⟩,
 ⟨some 7,.len false (.t 6),none,[]⟩,
 ⟨some 8,.bin .sub (.t 7) (.c (.d (.int .i64 1))),none,[]⟩,
 ⟨some 9,.call true (.c (.fn 31 [])) [.t 5,.c (.d (.int .i64 0)),.t 8],none,[]⟩,
 ⟨some 10,.move (.t 9),none,[]⟩,
 ⟨some 11,.move (.t 0),some (10,true),[]⟩,
 ⟨some 12,.move (.t 1),some (10,true),[]⟩,
 ⟨some 13,.indexAddr 3 none (.t 11) (.t 12),some (10,true),[]⟩,
 ⟨some 14,.fieldAddr 2 (.t 13),some (10,true),[]⟩,
 ⟨some 15,.load false 1 (.t 14),some (10,true),[]⟩,
 ⟨some 16,.pick (.t 10) (.t 15) (.c (.d (.bool false))),none,[]⟩,
 ⟨some 4,.move (.t 16),none,[]⟩]
def v33:VFn:=⟨2,[.tmp 4],(.seq (.region false 0 [0,1] qAl) (.seq (.region false 0 [4] qAk) .ret))⟩
def qAj:List VOper:=[
 ⟨some 4,.move (.c (.d (.bool false))),none,[]⟩]
def qAi:List VOper:=[
 ⟨some 5,.move (.t 0),none,[]⟩,
 ⟨some 6,.move (.t 1),none,[]⟩,
 ⟨some 7,.call true (.c (.fn 29 [])) [.t 5,.t 6],none,[]⟩,
 ⟨some 8,.move (.t 7),none,[]⟩,
 ⟨some 9,.move (.t 0),some (8,true),[]⟩,
 ⟨some 10,.move (.t 1),some (8,true),[]⟩,
 ⟨some 11,.indexAddr 3 none (.t 9) (.t 10),some (8,true),[]⟩,
 ⟨some 12,.fieldAddr 2 (.t 11),some (8,true),[]⟩,
 ⟨some 13,.load false 1 (.t 12),some (8,true),[]⟩,
 ⟨some 14,.pick (.t 8) (.t 13) (.c (.d (.bool false))),none,[]⟩,
 ⟨some 4,.move (.t 14),none,[]⟩]
def v34:VFn:=⟨2,[.tmp 4],(.seq (.region false 0 [0,1] qAj) (.seq (.region false 0 [4] qAi) .ret))⟩
def qkW:List VOper:=[
 ⟨some 2,.box 0 (.t 0),none,[]⟩,
 ⟨some 3,.box 1 (.t 1),none,[]⟩,
 ⟨some 4,.move (.c (.d (.bool false))),none,[]⟩]
def qkV:List VOper:=[
 ⟨some 6,.fieldAddr 0 (.t 2),none,[]⟩,
 ⟨some 7,.load false 1 (.t 6),none,[]⟩,
 ⟨some 8,.fieldAddr 0 (.t 3),none,[]⟩,
 ⟨some 9,.load false 1 (.t 8),none,[]⟩,
 ⟨some 10,.bin .neq (.t 7) (.t 9),none,[]⟩]
def qkU:List VOper:=[
 ⟨some 11,.fieldAddr 0 (.t 2),none,[]⟩,
 ⟨some 12,.load false 1 (.t 11),none,[]⟩,
 ⟨some 13,.fieldAddr 0 (.t 3),none,[]⟩,
 ⟨some 14,.load false 1 (.t 13),none,[]⟩,
 ⟨some 15,.bin .lss (.t 12) (.t 14),none,[]⟩,
 ⟨some 4,.move (.t 15),none,[]⟩]
def qkT:List VOper:=[
 ⟨some 16,.fieldAddr 1 (.t 2),none,[]⟩,
 ⟨some 17,.load false 1 (.t 16),none,[]⟩,
 ⟨some 18,.fieldAddr 1 (.t 3),none,[]⟩,
 ⟨some 19,.load false 1 (.t 18),none,[]⟩,
 ⟨some 20,.bin .neq (.t 17) (.t 19),none,[]⟩]
def qkS:List VOper:=[
 ⟨some 21,.fieldAddr 1 (.t 2),none,[]⟩,
 ⟨some 22,.load false 1 (.t 21),none,[]⟩,
 ⟨some 23,.fieldAddr 1 (.t 3),none,[]⟩,
 ⟨some 24,.load false 1 (.t 23),none,[]⟩,
 ⟨some 25,.bin .lss (.t 22) (.t 24),none,[]⟩,
 ⟨some 4,.move (.t 25),none,[]⟩]
def qkR:List VOper:=[
 ⟨some 26,.fieldAddr 2 (.t 2),none,[]⟩,
 ⟨some 27,.load false 1 (.t 26),none,[]⟩,
 ⟨some 28,.len false (.t 27),none,[]⟩,
 ⟨some 29,.fieldAddr 2 (.t 3),none,[]⟩,
 ⟨some 30,.load false 1 (.t 29),none,[]⟩,
 ⟨some 31,.len false (.t 30),none,[]⟩,
 ⟨some 32,.bin .neq (.t 28) (.t 31),none,[]⟩]
def qkQ:List VOper:=[
 ⟨some 33,.fieldAddr 2 (.t 2),none,[]⟩,
 ⟨some 34,.load false 1 (.t 33),none,[]⟩,
 ⟨some 35,.len false (.t 34),none,[]⟩,
 ⟨some 36,.fieldAddr 2 (.t 3),none,[]⟩,
 ⟨some 37,.load false 1 (.t 36),none,[]⟩,
 ⟨some 38,.len false (.t 37),none,[]⟩,
 ⟨some 39,.bin .lss (.t 35) (.t 38),none,[]⟩,
 ⟨some 4,.move (.t 39),none,[]⟩]
def qkP:List VOper:=[
 ⟨some 5,.move (.c (.d (.int .i64 0))),none,[]⟩]
def qkO:List VOper:=[
 ⟨some 40,.move (.t 5),none,[]⟩,
 ⟨some 41,.fieldAddr 2 (.t 2),none,[]⟩,
 ⟨some 42,.load false 1 (.t 41),none,[]⟩,
 ⟨some 43,.len false (.t 42),none,[]⟩,
 ⟨some 44,.bin .lss (.t 40) (.t 43),none,[]⟩]
def qs4:List VOper:=[
 ⟨some 47,.fieldAddr 2 (.t 2),none,[]⟩,
 ⟨some 48,.load false 1 (.t 47),none,[0]⟩,
 ⟨some 49,.move (.t 5),none,[]⟩,
 ⟨some 50,.indexAddr 3 none (.t 48) (.t 49),none,[1,2]⟩,
 ⟨some 51,.load true 3 (.t 50),none,[3]⟩,
 ⟨some 52,.fieldAddr 2 (.t 3),none,[]⟩,
 ⟨some 53,.load false 1 (.t 52),none,[5]⟩,
 ⟨some 54,.move (.t 5),none,[]⟩,
 ⟨some 55,.indexAddr 3 none (.t 53) (.t 54),none,[6,7]⟩,
 ⟨some 56,.load true 3 (.t 55),none,[8]⟩,
 ⟨some 57,.call true (.c (.fn 3 [])) [.t 51,.t 56],none,[4,9]⟩,
 ⟨some 58,.not (.t 57),none,[10]⟩]
def qs3:List VOper:=[
 ⟨some 59,.fieldAddr 2 (.t 2),none,[]⟩,
 ⟨some 60,.load false 1 (.t 59),none,[0]⟩,
 ⟨some 61,.move (.t 5),none,[]⟩,
 ⟨some 62,.indexAddr 3 none (.t 60) (.t 61),none,[1,2]⟩,
 ⟨some 63,.load true 3 (.t 62),none,[3]⟩,
 ⟨some 64,.fieldAddr 2 (.t 3),none,[]⟩,
 ⟨some 65,.load false 1 (.t 64),none,[5]⟩,
 ⟨some 66,.move (.t 5),none,[]⟩,
 ⟨some 67,.indexAddr 3 none (.t 65) (.t 66),none,[6,7]⟩,
 ⟨some 68,.load true 3 (.t 67),none,[8]⟩,
 ⟨some 69,.call true (.c (.fn 84 [])) [.t 63,.t 68],none,[4,9]⟩,
 ⟨some 4,.move (.t 69),none,[0,1,2,3,4,5,6,7,8,9,10]⟩]
def qkN:List VOper:=[
 ⟨some 45,.move (.t 5),none,[]⟩,
 ⟨some 46,.bin .add (.t 45) (.c (.d (.int .i64 1))),none,[]⟩,
 ⟨some 5,.move (.t 46),none,[]⟩]
def qv1:VCode:=(.seq (.seq (.region false 0 [2,3,5,44] qkO) (.cond (.t 44) .skip (.exit 0))) (.seq (.block 1 (.seq (.region true 0 [2,3,5,58] qs4) (.cond (.t 58) (.seq (.region true 0 [4] qs3) .ret) .skip))) (.region false 0 [2,3,5] qkN)))
def qfO:List VOper:=[
 ⟨some 4,.move (.c (.d (.bool false))),none,[]⟩]
def v84:VFn:=⟨2,[.tmp 4],(.seq (.region false 2 [2,3] qkW) (.seq (.seq (.region false 0 [2,3,10] qkV) (.cond (.t 10) (.seq (.region false 0 [4] qkU) .ret) .skip)) (.seq (.seq (.region false 0 [2,3,20] qkT) (.cond (.t 20) (.seq (.region false 0 [4] qkS) .ret) .skip)) (.seq (.seq (.region false 0 [2,3,32] qkR) (.cond (.t 32) (.seq (.region false 0 [4] qkQ) .ret) .skip)) (.seq (.seq (.region false 0 [2,3,5] qkP) (.block 0 (.loop [2,3,5] qv1))) (.seq (.region false 0 [4] qfO) .ret))))))⟩
def qyO:List VOper:=[
 ⟨some 2,.move (.c (.d (.bool false))),none,[]⟩]
def qyN:List VOper:=[
 ⟨some 3,.move (.t 0),none,[]⟩,
 ⟨some 4,.len false (.t 3),none,[]⟩,
 ⟨some 5,.bin .gtr (.t 4) (.c (.d (.int .i64 1048576))),none,[]⟩,
 ⟨some 2,.move (.t 5),none,[]⟩]
def qBS:VFn:=⟨1,[.tmp 2],(.seq (.region false 0 [0] qyO) (.seq (.region false 0 [2] qyN) .ret))⟩
def qmE:List VOper:=[
 ⟨some 1,.box 0 (.t 0),none,[]⟩,
 ⟨some 2,.alloc 1 [.int .i64 0,.int .i64 0,.sl .nil []],none,[]⟩]
def qmD:List VOper:=[
 ⟨some 5,.fieldAddr 0 (.t 1),none,[]⟩,
 ⟨some 6,.load false 1 (.t 5),none,[]⟩,
 ⟨some 7,.fieldAddr 1 (.t 1),none,[]⟩,
 ⟨some 8,.load false 1 (.t 7),none,[]⟩,
 ⟨some 9,.build [.int .i64 0,.int .i64 0,.sl .nil []] [(0,1,.t 6),(1,1,.t 8)],none,[]⟩,
 ⟨some 3,.alloc 0 [.int .i64 0,.int .i64 0,.sl .nil []],none,[]⟩,
 ⟨none,.store false 3 (.t 3) (.t 9),none,[]⟩]
def qmC:List VOper:=[
 ⟨some 4,.move (.c (.d (.int .i64 0))),none,[]⟩]
def qmB:List VOper:=[
 ⟨some 10,.move (.t 4),none,[]⟩,
 ⟨some 11,.fieldAddr 2 (.t 1),none,[]⟩,
 ⟨some 12,.load false 1 (.t 11),none,[]⟩,
 ⟨some 13,.len false (.t 12),none,[]⟩,
 ⟨some 14,.bin .lss (.t 10) (.t 13),none,[]⟩]
def qul:List VOper:=[
 ⟨some 17,.fieldAddr 2 (.t 3),none,[]⟩,
 ⟨some 18,.load false 1 (.t 17),none,[0]⟩,
 ⟨some 19,.fieldAddr 2 (.t 1),none,[]⟩,
 ⟨some 20,.load false 1 (.t 19),none,[2]⟩,
 ⟨some 21,.move (.t 4),none,[]⟩,
 ⟨some 22,.indexAddr 3 none (.t 20) (.t 21),none,[3,4]⟩,
 ⟨some 23,.load true 3 (.t 22),none,[5]⟩,
 ⟨some 24,.call true (.c (.fn 146 [])) [.t 23],none,[6]⟩,
 ⟨some 25,.buildSlice 3 (.agg [.int .i64 0,.int .i64 0,.sl .nil []]) 1 [(0,.t 24)],none,[7]⟩,
 ⟨some 26,.append 3 40 (.t 18) (.t 25),none,[1,7,8]⟩,
 ⟨some 27,.fieldAddr 2 (.t 3),none,[0,1,2,3,4,5,6,7,8,9]⟩,
 ⟨none,.store false 1 (.t 27) (.t 26),none,[0,1,2,3,4,5,6,7,8,9,10]⟩]
def qmA:List VOper:=[
 ⟨some 15,.move (.t 4),none,[]⟩,
 ⟨some 16,.bin .add (.t 15) (.c (.d (.int .i64 1))),none,[]⟩,
 ⟨some 4,.move (.t 16),none,[]⟩]
def qqc:VCode:=(.seq (.seq (.region false 0 [1,2,3,4,14] qmB) (.cond (.t 14) .skip (.exit 0))) (.seq (.block 1 (.region true 0 [1,2,3,4] qul)) (.region false 0 [1,2,3,4] qmA)))
def qmz:List VOper:=[
 ⟨some 28,.load true 3 (.t 3),none,[]⟩,
 ⟨none,.store false 3 (.t 2) (.t 28),none,[]⟩]
def qzW:VFn:=⟨1,[.cell 2 true 3],(.seq (.region false 2 [1,2] qmE) (.seq (.region false 1 [1,2,3] qmD) (.seq (.seq (.region false 0 [1,2,3,4] qmC) (.block 0 (.loop [1,2,3,4] qqc))) (.seq (.region false 0 [2] qmz) .ret))))⟩
def qyM:List VOper:=[
 ⟨some 2,.alloc 0 [.int .i64 0,.int .i64 0,.sl .nil []],none,[]⟩]
def qyL:List VOper:=[
 ⟨some 3,.move (.t 0),none,[]⟩,
 ⟨some 4,.build [.int .i64 0,.int .i64 0,.sl .nil []] [(0,1,.c (.d (.int .i64 (-1)))),(1,1,.t 3)],none,[]⟩,
 ⟨none,.store false 3 (.t 2) (.t 4),none,[]⟩]
def qBR:VFn:=⟨1,[.cell 2 true 3],(.seq (.region false 1 [0,2] qyM) (.seq (.region false 0 [2] qyL) .ret))⟩
def qyK:List VOper:=[
 ⟨some 1,.box 0 (.t 0),none,[]⟩,
 ⟨some 2,.alloc 1 [.int .i64 0,.int .i64 0,.sl .nil []],none,[]⟩]
def qyJ:List VOper:=[
 ⟨some 3,.fieldAddr 2 (.t 1),none,[]⟩,
 ⟨some 4,.load false 1 (.t 3),none,[]⟩,
 ⟨some 5,.call true (.c (.fn 151 [])) [.t 4],none,[]⟩,
 ⟨some 6,.fieldAddr 2 (.t 1),none,[]⟩,
 ⟨none,.store false 1 (.t 6) (.t 5),none,[]⟩]
def qyI:List VOper:=[
 ⟨some 7,.load true 3 (.t 1),none,[]⟩,
 ⟨none,.store false 3 (.t 2) (.t 7),none,[]⟩]
def qBQ:VFn:=⟨1,[.cell 2 true 3],(.seq (.region false 2 [1,2] qyK) (.seq (.region false 0 [1,2] qyJ) (.seq (.region false 0 [2] qyI) .ret)))⟩
def qpq:List VOper:=[
 ⟨some 2,.move (.c (.d (.sl .nil []))),none,[]⟩]
def qpp:List VOper:=[
 ⟨some 6,.buildSlice 3 (.agg [.int .i64 0,.int .i64 0,.sl .nil []]) 0 [],none,[]⟩,
 ⟨some 3,.move (.t 6),none,[]⟩]
def qpo:List VOper:=[
 ⟨some 7,.move (.t 0),none,[]⟩,
 ⟨some 8,.len false (.t 7),none,[]⟩,
 ⟨some 9,.move (.c (.d (.int .i64 0))),none,[]⟩]
def quk:List VOper:=[
 ⟨some 10,.bin .lss (.t 9) (.t 8),none,[]⟩]
def quj:List VOper:=[
 ⟨some 11,.indexAddr 3 none (.t 7) (.t 9),none,[]⟩,
 ⟨some 12,.load true 3 (.t 11),none,[]⟩,
 ⟨some 5,.alloc 0 [.int .i64 0,.int .i64 0,.sl .nil []],none,[]⟩,
 ⟨none,.store false 3 (.t 5) (.t 12),none,[]⟩]
def qui:List VOper:=[
 ⟨some 13,.move (.t 3),none,[]⟩,
 ⟨some 14,.load true 3 (.t 5),none,[]⟩,
 ⟨some 15,.call true (.c (.fn 150 [])) [.t 14],none,[]⟩,
 ⟨some 16,.buildSlice 3 (.agg [.int .i64 0,.int .i64 0,.sl .nil []]) 1 [(0,.t 15)],none,[]⟩,
 ⟨some 17,.append 3 40 (.t 13) (.t 16),none,[]⟩,
 ⟨some 3,.move (.t 17),none,[]⟩]
def quh:List VOper:=[
 ⟨some 18,.bin .add (.t 9) (.c (.d (.int .i64 1))),none,[]⟩,
 ⟨some 9,.move (.t 18),none,[]⟩]
def qqb:VCode:=(.seq (.region false 0 [3,7,8,9,10] quk) (.seq (.cond (.t 10) .skip (.exit 0)) (.seq (.block 1 (.seq (.region false 1 [3,5,7,8,9] quj) (.region false 0 [3,7,8,9] qui))) (.region false 0 [3,7,8,9] quh))))
def qmy:List VOper:=[
 ⟨some 19,.move (.t 3),none,[]⟩,
 ⟨some 2,.move (.t 19),none,[]⟩]
def qBP:VFn:=⟨1,[.tmp 2],(.seq (.region false 0 [0] qpq) (.seq (.region false 0 [0,3] qpp) (.seq (.seq (.region false 0 [3,7,8,9] qpo) (.block 0 (.loop [3,7,8,9] qqb))) (.seq (.region false 0 [2] qmy) .ret))))⟩
def qfS:List VOper:=[
 ⟨some 3,.box 0 (.t 1),none,[]⟩,
 ⟨some 4,.alloc 1 [.int .i64 0,.int .i64 0,.sl .nil []],none,[]⟩]
def qfR:List VOper:=[
 ⟨some 9,.fieldAddr 0 (.t 3),none,[]⟩,
 ⟨some 10,.load false 1 (.t 9),none,[]⟩,
 ⟨some 11,.fieldAddr 1 (.t 3),none,[]⟩,
 ⟨some 12,.load false 1 (.t 11),none,[]⟩,
 ⟨some 13,.build [.int .i64 0,.int .i64 0,.sl .nil []] [(0,1,.t 10),(1,1,.t 12)],none,[]⟩,
 ⟨some 5,.alloc 0 [.int .i64 0,.int .i64 0,.sl .nil []],none,[]⟩,
 ⟨none,.store false 3 (.t 5) (.t 13),none,[]⟩]
def qfQ:List VOper:=[
 ⟨some 6,.move (.c (.d (.int .i64 0))),none,[]⟩]
def qhk:List VOper:=[
 ⟨some 14,.move (.t 6),none,[]⟩,
 ⟨some 15,.fieldAddr 2 (.t 3),none,[]⟩,
 ⟨some 16,.load false 1 (.t 15),none,[]⟩,
 ⟨some 17,.len false (.t 16),none,[]⟩,
 ⟨some 18,.bin .lss (.t 14) (.t 17),none,[]⟩]
def qhi:List VOper:=[
 ⟨some 21,.move (.t 0),none,[]⟩,
 ⟨some 22,.fieldAddr 2 (.t 3),none,[]⟩,
 ⟨some 23,.load false 1 (.t 22),none,[]⟩,
 ⟨some 24,.move (.t 6),none,[]⟩,
 ⟨some 25,.indexAddr 3 none (.t 23) (.t 24),none,[]⟩,
 ⟨some 26,.load true 3 (.t 25),none,[]⟩,
 ⟨some 27,.call true (.c (.fn 153 [])) [.t 21,.t 26],none,[]⟩,
 ⟨some 7,.alloc 0 [.int .i64 0,.int .i64 0,.sl .nil []],none,[]⟩,
 ⟨none,.store false 3 (.t 7) (.t 27),none,[]⟩]
def qeJ:List VOper:=[
 ⟨some 45,.move (.t 0),none,[]⟩,
 ⟨some 46,.fieldAddr 0 (.t 3),none,[]⟩,
 ⟨some 47,.load false 1 (.t 46),none,[]⟩,
 ⟨some 48,.call true (.c (.fn 33 [])) [.t 45,.t 47],none,[]⟩,
 ⟨some 49,.not (.t 48),none,[]⟩,
 ⟨some 44,.move (.t 49),none,[]⟩]
def qeI:List VOper:=[
 ⟨some 50,.fieldAddr 2 (.t 5),none,[]⟩,
 ⟨some 51,.load false 1 (.t 50),none,[]⟩,
 ⟨some 52,.load true 3 (.t 7),none,[]⟩,
 ⟨some 53,.buildSlice 3 (.agg [.int .i64 0,.int .i64 0,.sl .nil []]) 1 [(0,.t 52)],none,[]⟩,
 ⟨some 54,.append 3 40 (.t 51) (.t 53),none,[]⟩,
 ⟨some 55,.fieldAddr 2 (.t 5),none,[]⟩,
 ⟨none,.store false 1 (.t 55) (.t 54),none,[]⟩]
def qeH:List VOper:=[
 ⟨some 57,.fieldAddr 0 (.t 7),none,[]⟩,
 ⟨some 58,.load false 1 (.t 57),none,[]⟩,
 ⟨some 59,.fieldAddr 0 (.t 3),none,[]⟩,
 ⟨some 60,.load false 1 (.t 59),none,[]⟩,
 ⟨some 61,.bin .neq (.t 58) (.t 60),none,[]⟩,
 ⟨some 56,.move (.t 61),none,[]⟩]
def qeG:List VOper:=[
 ⟨some 62,.fieldAddr 2 (.t 5),none,[]⟩,
 ⟨some 63,.load false 1 (.t 62),none,[]⟩,
 ⟨some 64,.load true 3 (.t 7),none,[]⟩,
 ⟨some 65,.call false (.c (.fn 154 [])) [.t 63,.t 64],none,[]⟩,
 ⟨some 66,.fieldAddr 2 (.t 5),none,[]⟩,
 ⟨none,.store false 1 (.t 66) (.t 65),none,[]⟩]
def qhh:List VOper:=[
 ⟨some 8,.move (.c (.d (.int .i64 0))),none,[]⟩]
def qhg:List VOper:=[
 ⟨some 28,.move (.t 8),none,[]⟩,
 ⟨some 29,.fieldAddr 2 (.t 7),none,[]⟩,
 ⟨some 30,.load false 1 (.t 29),none,[]⟩,
 ⟨some 31,.len false (.t 30),none,[]⟩,
 ⟨some 32,.bin .lss (.t 28) (.t 31),none,[]⟩]
def qug:List FOper:=[
 .one ⟨some 35,.fieldAddr 2 (.t 5),none,[]⟩,
 .one ⟨some 36,.load false 1 (.t 35),none,[0]⟩,
 .one ⟨some 37,.fieldAddr 2 (.t 7),none,[]⟩,
 .el 38 37 39 (.t 8) 40 3 41 [2] [] [3,4] [5],
 .one ⟨some 42,.call false (.c (.fn 154 [])) [.t 36,.t 41],none,[1,6]⟩,
 .one ⟨some 43,.fieldAddr 2 (.t 5),none,[0,1,2,3,4,5,6,7]⟩,
 .one ⟨none,.store false 1 (.t 43) (.t 42),none,[0,1,2,3,4,5,6,7,8]⟩]
def qhf:List VOper:=[
 ⟨some 33,.move (.t 8),none,[]⟩,
 ⟨some 34,.bin .add (.t 33) (.c (.d (.int .i64 1))),none,[]⟩,
 ⟨some 8,.move (.t 34),none,[]⟩]
def qqa:VCode:=(.seq (.seq (.region false 0 [0,3,4,5,6,7,8,32] qhg) (.cond (.t 32) .skip (.exit 3))) (.seq (.block 4 (.regionF true 0 [0,3,4,5,6,7,8] qug)) (.region false 0 [0,3,4,5,6,7,8] qhf)))
def qhj:List VOper:=[
 ⟨some 19,.move (.t 6),none,[]⟩,
 ⟨some 20,.bin .add (.t 19) (.c (.d (.int .i64 1))),none,[]⟩,
 ⟨some 6,.move (.t 20),none,[]⟩]
def qhC:VCode:=(.seq (.seq (.region false 0 [0,3,4,5,6,18] qhk) (.cond (.t 18) .skip (.exit 0))) (.seq (.block 1 (.seq (.region false 1 [0,3,4,5,6,7] qhi) (.block 2 (.seq (.region false 0 [0,3,4,5,6,7,44] qeJ) (.cond (.t 44) (.region false 0 [0,3,4,5,6] qeI) (.seq (.region false 0 [0,3,4,5,6,7,56] qeH) (.cond (.t 56) (.region false 0 [0,3,4,5,6] qeG) (.seq (.region false 0 [0,3,4,5,6,7,8] qhh) (.block 3 (.loop [0,3,4,5,6,7,8] qqa)))))))))) (.region false 0 [0,3,4,5,6] qhj)))
def qd8:List VOper:=[
 ⟨some 67,.load true 3 (.t 5),none,[]⟩,
 ⟨none,.store false 3 (.t 4) (.t 67),none,[]⟩]
def qBO:VFn:=⟨2,[.cell 4 true 3],(.seq (.region false 2 [0,3,4] qfS) (.seq (.region false 1 [0,3,4,5] qfR) (.seq (.seq (.region false 0 [0,3,4,5,6] qfQ) (.block 0 (.loop [0,3,4,5,6] qhC))) (.seq (.region false 0 [4] qd8) .ret))))⟩
def qmx:List VOper:=[
 ⟨some 3,.box 0 (.t 1),none,[]⟩,
 ⟨some 4,.move (.c (.d (.sl .nil []))),none,[]⟩]
def qmw:List VOper:=[
 ⟨some 5,.move (.c (.d (.int .i64 0))),none,[]⟩]
def quf:List VOper:=[
 ⟨some 7,.move (.t 5),none,[]⟩,
 ⟨some 8,.move (.t 0),none,[]⟩,
 ⟨some 9,.len false (.t 8),none,[1]⟩,
 ⟨some 10,.bin .lss (.t 7) (.t 9),none,[0,2]⟩,
 ⟨some 11,.move (.t 10),none,[3]⟩,
 ⟨some 12,.load true 3 (.t 3),some (11,true),[4]⟩,
 ⟨some 13,.move (.t 0),some (11,true),[4]⟩,
 ⟨some 14,.move (.t 5),some (11,true),[4]⟩,
 ⟨some 15,.indexAddr 3 none (.t 13) (.t 14),some (11,true),[4,6,7]⟩,
 ⟨some 16,.load true 3 (.t 15),some (11,true),[4,8]⟩,
 ⟨some 17,.call true (.c (.fn 84 [])) [.t 12,.t 16],some (11,true),[4,5,9]⟩,
 ⟨some 18,.not (.t 17),some (11,true),[4,10]⟩,
 ⟨some 19,.pick (.t 11) (.t 18) (.c (.d (.bool false))),none,[4,11]⟩]
def qpn:List VOper:=[
 ⟨some 20,.move (.t 5),none,[]⟩,
 ⟨some 21,.bin .add (.t 20) (.c (.d (.int .i64 1))),none,[]⟩,
 ⟨some 5,.move (.t 21),none,[]⟩]
def qkr:VCode:=(.seq (.seq (.region true 0 [0,3,5,19] quf) (.cond (.t 19) .skip (.exit 0))) (.block 1 (.region false 0 [0,3,5] qpn)))
def qmv:List FOper:=[
 .one ⟨some 22,.buildSlice 3 (.agg [.int .i64 0,.int .i64 0,.sl .nil []]) 0 [],none,[]⟩,
 .sl 23 0 24 (.t 5) 25 3 none (some (.t 24)) [] [] [],
 .one ⟨some 26,.append 3 40 (.t 22) (.t 25),none,[]⟩,
 .one ⟨some 6,.move (.t 26),none,[]⟩]
def qmu:List VOper:=[
 ⟨some 27,.move (.t 6),none,[]⟩,
 ⟨some 28,.load true 3 (.t 3),none,[]⟩,
 ⟨some 29,.buildSlice 3 (.agg [.int .i64 0,.int .i64 0,.sl .nil []]) 1 [(0,.t 28)],none,[]⟩,
 ⟨some 30,.append 3 40 (.t 27) (.t 29),none,[]⟩,
 ⟨some 6,.move (.t 30),none,[]⟩]
def qmt:List FOper:=[
 .one ⟨some 31,.move (.t 6),none,[]⟩,
 .sl 32 0 33 (.t 5) 34 3 (some (.t 33)) none [] [] [],
 .one ⟨some 35,.append 3 40 (.t 31) (.t 34),none,[]⟩,
 .one ⟨some 4,.move (.t 35),none,[]⟩]
def qBN:VFn:=⟨2,[.tmp 4],(.seq (.region false 1 [0,3] qmx) (.seq (.region false 0 [0,3,5] qmw) (.seq (.block 0 (.loop [0,3,5] qkr)) (.seq (.regionF false 0 [0,3,5,6] qmv) (.seq (.region false 0 [0,5,6] qmu) (.seq (.regionF false 0 [4] qmt) .ret))))))⟩
def qyH:List VOper:=[
 ⟨some 0,.move (.c (.d (.sl .nil []))),none,[]⟩]
def qyG:List VOper:=[
 ⟨some 1,.build [.str ⟨#[]⟩,.int .i64 0,.bool false] [(0,1,.c (.d (.str ⟨#[116,116]⟩)))],none,[]⟩,
 ⟨some 2,.build [.str ⟨#[]⟩,.int .i64 0,.bool false] [(0,1,.c (.d (.str ⟨#[97]⟩)))],none,[]⟩,
 ⟨some 3,.build [.str ⟨#[]⟩,.int .i64 0,.bool false] [(0,1,.c (.d (.str ⟨#[98]⟩)))],none,[]⟩,
 ⟨some 4,.build [.str ⟨#[]⟩,.int .i64 0,.bool false] [(0,1,.c (.d (.str ⟨#[103]⟩))),(1,1,.c (.d (.int .i64 1)))],none,[]⟩,
 ⟨some 5,.build [.str ⟨#[]⟩,.int .i64 0,.bool false] [(0,1,.c (.d (.str ⟨#[104]⟩))),(1,1,.c (.d (.int .i64 2)))],none,[]⟩,
 ⟨some 6,.build [.str ⟨#[]⟩,.int .i64 0,.bool false] [(0,1,.c (.d (.str ⟨#[102]⟩))),(1,1,.c (.d (.int .i64 2))),(2,1,.c (.d (.bool true)))],none,[]⟩,
 ⟨some 7,.build [.str ⟨#[]⟩,.int .i64 0,.bool false] [(0,1,.c (.d (.str ⟨#[107]⟩))),(1,1,.c (.d (.int .i64 2))),(2,1,.c (.d (.bool true)))],none,[]⟩,
 ⟨some 8,.buildSlice 3 (.agg [.str ⟨#[]⟩,.int .i64 0,.bool false]) 7 [(0,.t 1),(1,.t 2),(2,.t 3),(3,.t 4),(4,.t 5),(5,.t 6),(6,.t 7)],none,[]⟩,
 ⟨some 0,.move (.t 8),none,[]⟩]
def qBM:VFn:=⟨0,[.tmp 0],(.seq (.region false 0 [] qyH) (.seq (.region false 0 [0] qyG) .ret))⟩
def qms:List VOper:=[
 ⟨some 2,.move (.c .nilp),none,[]⟩]
def qmr:List VOper:=[
 ⟨some 5,.move (.t 0),none,[]⟩,
 ⟨some 6,.len false (.t 5),none,[]⟩,
 ⟨some 7,.bin .add (.c (.d (.int .i64 27064))) (.t 6),none,[]⟩,
 ⟨some 3,.move (.t 7),none,[]⟩]
def qmq:List VOper:=[
 ⟨some 4,.move (.c (.d (.int .i64 0))),none,[]⟩]
def qpm:List VOper:=[
 ⟨some 8,.move (.t 4),none,[]⟩,
 ⟨some 9,.move (.t 0),none,[]⟩,
 ⟨some 10,.len false (.t 9),none,[]⟩,
 ⟨some 11,.bin .lss (.t 8) (.t 10),none,[]⟩,
 ⟨some 12,.move (.t 11),none,[]⟩,
 ⟨some 13,.move (.t 4),some (12,true),[]⟩,
 ⟨some 14,.bin .lss (.t 13) (.c (.d (.int .i64 4000))),some (12,true),[]⟩,
 ⟨some 15,.pick (.t 12) (.t 14) (.c (.d (.bool false))),none,[]⟩]
def qpk:List VOper:=[
 ⟨some 18,.move (.t 3),none,[]⟩,
 ⟨some 19,.bin .mul (.t 18) (.c (.d (.int .i64 131))),none,[]⟩,
 ⟨some 20,.move (.t 0),none,[]⟩,
 ⟨some 21,.move (.t 4),none,[]⟩,
 ⟨some 22,.indexAddr 1 none (.t 20) (.t 21),none,[]⟩,
 ⟨some 23,.load false 1 (.t 22),none,[]⟩,
 ⟨some 24,.conv (.kind .i64) (.t 23),none,[]⟩,
 ⟨some 25,.bin .add (.t 19) (.t 24),none,[]⟩,
 ⟨some 26,.bin .add (.t 25) (.c (.d (.int .i64 7))),none,[]⟩,
 ⟨some 27,.bin .and (.t 26) (.c (.d (.int .i64 1073741823))),none,[]⟩,
 ⟨some 3,.move (.t 27),none,[]⟩]
def qpl:List VOper:=[
 ⟨some 16,.move (.t 4),none,[]⟩,
 ⟨some 17,.bin .add (.t 16) (.c (.d (.int .i64 1))),none,[]⟩,
 ⟨some 4,.move (.t 17),none,[]⟩]
def qnh:VCode:=(.seq (.seq (.region false 0 [0,3,4,15] qpm) (.cond (.t 15) .skip (.exit 0))) (.seq (.block 1 (.region false 0 [0,3,4] qpk)) (.region false 0 [0,3,4] qpl)))
def qmp:List VOper:=[
 ⟨some 28,.move (.t 0),none,[]⟩,
 ⟨some 29,.move (.t 3),none,[]⟩,
 ⟨some 30,.build [.sl .nil [],.int .i64 0,.int .i64 0] [(0,1,.t 28),(2,1,.t 29)],none,[]⟩,
 ⟨some 31,.box 0 (.t 30),none,[]⟩,
 ⟨some 2,.move (.t 31),none,[]⟩]
def qBL:VFn:=⟨1,[.tmp 2],(.seq (.region false 0 [0] qms) (.seq (.region false 0 [0,3] qmr) (.seq (.seq (.region false 0 [0,3,4] qmq) (.block 0 (.loop [0,3,4] qnh))) (.seq (.region false 1 [2] qmp) .ret))))⟩
def qyF:List VOper:=[
 ⟨some 4,.move (.c (.d (.int .i64 0))),none,[]⟩]
def qyE:List VOper:=[
 ⟨some 9,.move (.t 1),none,[]⟩,
 ⟨some 10,.bin .leq (.t 9) (.c (.d (.int .i64 0))),none,[]⟩]
def qyD:List VOper:=[
 ⟨some 4,.move (.c (.d (.int .i64 0))),none,[]⟩]
def qyC:List VOper:=[
 ⟨some 11,.move (.t 1),none,[]⟩,
 ⟨some 12,.bin .leq (.t 11) (.c (.d (.int .i64 256))),none,[]⟩]
def qyB:List VOper:=[
 ⟨some 13,.move (.t 0),none,[]⟩,
 ⟨some 14,.call false (.c (.fn 165 [])) [.t 13],none,[]⟩,
 ⟨some 15,.move (.t 1),none,[]⟩,
 ⟨some 16,.bin .rem (.t 14) (.t 15),none,[]⟩,
 ⟨some 4,.move (.t 16),none,[]⟩]
def qyA:List VOper:=[
 ⟨some 17,.move (.t 0),none,[]⟩,
 ⟨some 18,.call false (.c (.fn 165 [])) [.t 17],none,[]⟩,
 ⟨some 5,.move (.t 18),none,[]⟩]
def qyz:List VOper:=[
 ⟨some 19,.move (.t 0),none,[]⟩,
 ⟨some 20,.call false (.c (.fn 165 [])) [.t 19],none,[]⟩,
 ⟨some 6,.move (.t 20),none,[]⟩]
def qyy:List VOper:=[
 ⟨some 21,.move (.t 0),none,[]⟩,
 ⟨some 22,.call false (.c (.fn 165 [])) [.t 21],none,[]⟩,
 ⟨some 7,.move (.t 22),none,[]⟩]
def qyx:List VOper:=[
 ⟨some 23,.move (.t 0),none,[]⟩,
 ⟨some 24,.call false (.c (.fn 165 [])) [.t 23],none,[]⟩,
 ⟨some 8,.move (.t 24),none,[]⟩]
def qyw:List VOper:=[
 ⟨some 25,.move (.t 5),none,[]⟩,
 ⟨some 26,.bin .mul (.t 25) (.c (.d (.int .i64 16777216))),none,[]⟩,
 ⟨some 27,.move (.t 6),none,[]⟩,
 ⟨some 28,.bin .mul (.t 27) (.c (.d (.int .i64 65536))),none,[]⟩,
 ⟨some 29,.bin .add (.t 26) (.t 28),none,[]⟩,
 ⟨some 30,.move (.t 7),none,[]⟩,
 ⟨some 31,.bin .mul (.t 30) (.c (.d (.int .i64 256))),none,[]⟩,
 ⟨some 32,.bin .add (.t 29) (.t 31),none,[]⟩,
 ⟨some 33,.move (.t 8),none,[]⟩,
 ⟨some 34,.bin .add (.t 32) (.t 33),none,[]⟩,
 ⟨some 35,.move (.t 1),none,[]⟩,
 ⟨some 36,.bin .rem (.t 34) (.t 35),none,[]⟩,
 ⟨some 4,.move (.t 36),none,[]⟩]
def qBK:VFn:=⟨2,[.tmp 4],(.seq (.region false 0 [0,1] qyF) (.seq (.seq (.region false 0 [0,1,10] qyE) (.cond (.t 10) (.seq (.region false 0 [4] qyD) .ret) .skip)) (.seq (.seq (.region false 0 [0,1,12] qyC) (.cond (.t 12) (.seq (.region false 0 [4] qyB) .ret) .skip)) (.seq (.region false 0 [0,1,5] qyA) (.seq (.region false 0 [0,1,5,6] qyz) (.seq (.region false 0 [0,1,5,6,7] qyy) (.seq (.region false 0 [1,5,6,7,8] qyx) (.seq (.region false 0 [4] qyw) .ret))))))))⟩
def qyv:List VOper:=[
 ⟨some 4,.move (.c (.d (.int .i64 0))),none,[]⟩]
def qyu:List VOper:=[
 ⟨some 5,.move (.t 1),none,[]⟩,
 ⟨some 6,.move (.t 0),none,[]⟩,
 ⟨some 7,.move (.t 1),none,[]⟩,
 ⟨some 8,.len false (.t 7),none,[]⟩,
 ⟨some 9,.call false (.c (.fn 159 [])) [.t 6,.t 8],none,[]⟩,
 ⟨some 10,.indexAddr 1 none (.t 5) (.t 9),none,[]⟩,
 ⟨some 11,.load false 1 (.t 10),none,[]⟩,
 ⟨some 4,.move (.t 11),none,[]⟩]
def qBJ:VFn:=⟨2,[.tmp 4],(.seq (.region false 0 [0,1] qyv) (.seq (.region false 0 [4] qyu) .ret))⟩
def que:List VOper:=[
 ⟨some 2,.alloc 0 [.int .i64 0,.int .i64 0,.sl .nil []],none,[]⟩]
def qud:List VOper:=[
 ⟨some 6,.move (.t 0),none,[]⟩,
 ⟨some 7,.call false (.c (.fn 163 [])) [.t 6,.c (.d (.int .i64 3))],none,[]⟩,
 ⟨some 3,.alloc 3 [.int .i64 0,.int .i64 0,.sl .nil []],none,[]⟩,
 ⟨none,.store false 3 (.t 3) (.t 7),none,[]⟩]
def quc:List VOper:=[
 ⟨some 4,.move (.t 3),none,[]⟩]
def qub:List VOper:=[
 ⟨some 5,.move (.c (.d (.int .i64 0))),none,[]⟩]
def qj7:List VOper:=[
 ⟨some 8,.move (.t 5),none,[]⟩,
 ⟨some 9,.bin .lss (.t 8) (.c (.d (.int .i64 3))),none,[]⟩,
 ⟨some 10,.move (.t 9),none,[]⟩,
 ⟨some 11,.move (.t 4),some (10,true),[]⟩,
 ⟨some 12,.nilCheck (.t 11),some (10,true),[]⟩,
 ⟨some 13,.fieldAddr 2 (.t 12),some (10,true),[]⟩,
 ⟨some 14,.load false 1 (.t 13),some (10,true),[]⟩,
 ⟨some 15,.len false (.t 14),some (10,true),[]⟩,
 ⟨some 16,.bin .gtr (.t 15) (.c (.d (.int .i64 0))),some (10,true),[]⟩,
 ⟨some 17,.pick (.t 10) (.t 16) (.c (.d (.bool false))),none,[]⟩,
 ⟨some 18,.move (.t 17),none,[]⟩,
 ⟨some 19,.move (.t 0),some (18,true),[]⟩,
 ⟨some 20,.call false (.c (.fn 162 [])) [.t 19,.c (.d (.int .i64 2))],some (18,true),[]⟩,
 ⟨some 21,.not (.t 20),some (18,true),[]⟩,
 ⟨some 22,.pick (.t 18) (.t 21) (.c (.d (.bool false))),none,[]⟩]
def qmo:List VOper:=[
 ⟨some 25,.move (.t 4),none,[]⟩,
 ⟨some 26,.nilCheck (.t 25),none,[0]⟩,
 ⟨some 27,.fieldAddr 2 (.t 26),none,[1]⟩,
 ⟨some 28,.loadS false 1 (.t 27) 0,none,[2]⟩,
 ⟨some 29,.move (.t 0),none,[]⟩,
 ⟨some 30,.move (.t 4),none,[]⟩,
 ⟨some 31,.nilCheck (.t 30),none,[5]⟩,
 ⟨some 32,.fieldAddr 2 (.t 31),none,[6]⟩,
 ⟨some 33,.load false 1 (.t 32),none,[7]⟩,
 ⟨some 34,.len false (.t 33),none,[8]⟩,
 ⟨some 35,.callS 0 (.c (.fn 159 [])) [.t 29,.t 34],none,[4,9]⟩,
 ⟨some 36,.indexAddr 3 none (.t 28) (.t 35),none,[3,10]⟩,
 ⟨some 4,.move (.t 36),none,[0,1,2,3,4,5,6,7,8,9,10,11]⟩]
def qpj:List VOper:=[
 ⟨some 23,.move (.t 5),none,[]⟩,
 ⟨some 24,.bin .add (.t 23) (.c (.d (.int .i64 1))),none,[]⟩,
 ⟨some 5,.move (.t 24),none,[]⟩]
def qjh:VCode:=(.seq (.seq (.region false 0 [0,2,3,4,5,22] qj7) (.cond (.t 22) .skip (.exit 0))) (.seq (.block 1 (.ghost (.focC 4 2 [0,2,3,4,5]) (.region true 0 [0,2,3,4,5] qmo))) (.region false 0 [0,2,3,4,5] qpj)))
def qiw:List VOper:=[
 ⟨some 37,.move (.t 0),none,[]⟩,
 ⟨some 38,.call false (.c (.fn 159 [])) [.t 37,.c (.d (.int .i64 12))],none,[]⟩]
def qiv:List VOper:=[
 ⟨some 40,.bin .eql (.t 38) (.c (.d (.int .i64 0))),none,[]⟩,
 ⟨some 39,.move (.t 40),none,[]⟩]
def qua:List VOper:=[
 ⟨some 41,.move (.t 4),none,[]⟩,
 ⟨some 42,.move (.t 0),none,[]⟩,
 ⟨some 43,.buildSlice 1 (.int .i64 0) 5 [(0,.c (.d (.int .i64 (-2)))),(1,.c (.d (.int .i64 (-1)))),(2,.c (.d (.int .i64 0))),(3,.c (.d (.int .i64 5))),(4,.c (.d (.int .i64 7)))],none,[]⟩,
 ⟨some 44,.call false (.c (.fn 160 [])) [.t 42,.t 43],none,[]⟩,
 ⟨some 45,.nilCheck (.t 41),none,[]⟩,
 ⟨some 46,.fieldAddr 0 (.t 45),none,[]⟩,
 ⟨none,.store false 1 (.t 46) (.t 44),none,[]⟩]
def qgB:List VOper:=[
 ⟨some 48,.bin .eql (.t 38) (.c (.d (.int .i64 1))),none,[]⟩,
 ⟨some 47,.move (.t 48),none,[]⟩]
def qoa:List VOper:=[
 ⟨some 49,.move (.t 4),none,[]⟩,
 ⟨some 50,.move (.t 0),none,[]⟩,
 ⟨some 51,.buildSlice 1 (.int .i64 0) 4 [(0,.c (.d (.int .i64 (-1)))),(1,.c (.d (.int .i64 1))),(2,.c (.d (.int .i64 99))),(3,.c (.d (.int .i64 100)))],none,[]⟩,
 ⟨some 52,.call false (.c (.fn 160 [])) [.t 50,.t 51],none,[]⟩,
 ⟨some 53,.nilCheck (.t 49),none,[]⟩,
 ⟨some 54,.fieldAddr 1 (.t 53),none,[]⟩,
 ⟨none,.store false 1 (.t 54) (.t 52),none,[]⟩]
def qix:List VOper:=[
 ⟨some 56,.bin .eql (.t 38) (.c (.d (.int .i64 2))),none,[]⟩,
 ⟨some 55,.move (.t 56),none,[]⟩]
def qk6:List VOper:=[
 ⟨some 57,.move (.t 4),none,[]⟩,
 ⟨some 58,.nilCheck (.t 57),none,[0]⟩,
 ⟨some 59,.fieldAddr 2 (.t 58),none,[1]⟩,
 ⟨some 60,.loadS false 1 (.t 59) 0,none,[2]⟩,
 ⟨some 61,.move (.t 0),none,[]⟩,
 ⟨some 62,.callS 0 (.c (.fn 166 [])) [.t 61,.c (.d (.int .i64 1)),.c (.d (.int .i64 2))],none,[4]⟩,
 ⟨some 63,.len false (.t 60),none,[3]⟩,
 ⟨some 64,.buildSlice 3 (.agg [.int .i64 0,.int .i64 0,.sl .nil []]) 1 [(0,.c (.d (.agg [.int .i64 0,.int .i64 0,.sl .nil []])))],none,[]⟩]
def qfP:List VOper:=[
 ⟨some 65,.append1 3 40 (.t 60) (.t 64) (.t 63) (.t 62) 66,none,[]⟩,
 ⟨some 67,.nilCheck (.t 57),none,[]⟩,
 ⟨some 68,.fieldAddr 2 (.t 67),none,[]⟩,
 ⟨none,.store false 1 (.t 68) (.t 65),none,[]⟩]
def qk5:List VOper:=[
 ⟨some 70,.bin .eql (.t 38) (.c (.d (.int .i64 3))),none,[]⟩,
 ⟨some 69,.move (.t 70),none,[]⟩]
def qn9:List VOper:=[
 ⟨some 71,.move (.t 0),none,[]⟩,
 ⟨some 72,.call false (.c (.fn 166 [])) [.t 71,.c (.d (.int .i64 3)),.c (.d (.int .i64 3))],none,[]⟩,
 ⟨none,.store false 3 (.t 2) (.t 72),none,[]⟩]
def qk4:List VOper:=[
 ⟨some 73,.load true 3 (.t 3),none,[]⟩,
 ⟨none,.store false 3 (.t 2) (.t 73),none,[]⟩]
def qBI:VFn:=⟨1,[.cell 2 true 3],(.seq (.region false 1 [0,2] que) (.seq (.region false 4 [0,2,3] qud) (.seq (.region false 0 [0,2,3,4] quc) (.seq (.seq (.region false 0 [0,2,3,4,5] qub) (.block 0 (.loop [0,2,3,4,5] qjh))) (.seq (.seq (.region false 0 [0,2,3,4,38] qiw) (.block 2 (.seq (.region false 0 [0,2,3,4,38,39] qiv) (.cond (.t 39) (.region false 0 [2,3] qua) (.seq (.region false 0 [0,2,3,4,38,47] qgB) (.cond (.t 47) (.region false 0 [2,3] qoa) (.seq (.region false 0 [0,2,3,4,38,55] qix) (.cond (.t 55) (.regionT 0 [2,3] qk6 qfP) (.seq (.region false 0 [0,2,3,69] qk5) (.cond (.t 69) (.seq (.region false 0 [2] qn9) .ret) .skip)))))))))) (.seq (.ghost (.frzB 3 2 [2]) (.region false 0 [2] qk4)) .ret))))))⟩
def qyt:List VOper:=[
 ⟨some 4,.move (.c (.d (.bool false))),none,[]⟩]
def qys:List VOper:=[
 ⟨some 5,.move (.t 0),none,[]⟩,
 ⟨some 6,.move (.t 1),none,[]⟩,
 ⟨some 7,.call false (.c (.fn 159 [])) [.t 5,.t 6],none,[]⟩,
 ⟨some 8,.bin .eql (.t 7) (.c (.d (.int .i64 0))),none,[]⟩,
 ⟨some 4,.move (.t 8),none,[]⟩]
def qBH:VFn:=⟨2,[.tmp 4],(.seq (.region false 0 [0,1] qyt) (.seq (.region false 0 [4] qys) .ret))⟩
def qyr:List VOper:=[
 ⟨some 4,.alloc 0 [.int .i64 0,.int .i64 0,.sl .nil []],none,[]⟩]
def qyq:List VOper:=[
 ⟨some 5,.call true (.c (.fn 155 [])) [],none,[]⟩,
 ⟨some 6,.move (.t 0),none,[]⟩,
 ⟨some 7,.move (.t 1),none,[]⟩,
 ⟨some 8,.call false (.c (.fn 166 [])) [.t 6,.c (.d (.int .i64 2)),.t 7],none,[]⟩,
 ⟨some 9,.call true (.c (.fn 153 [])) [.t 5,.t 8],none,[]⟩,
 ⟨none,.store false 3 (.t 4) (.t 9),none,[]⟩]
def qBG:VFn:=⟨2,[.cell 4 true 3],(.seq (.region false 1 [0,1,4] qyr) (.seq (.region false 0 [4] qyq) .ret))⟩
def qt9:List VOper:=[
 ⟨some 4,.alloc 0 [.int .i64 0,.int .i64 0,.sl .nil []],none,[]⟩]
def qt8:List VOper:=[
 ⟨some 5,.move (.t 0),none,[]⟩,
 ⟨some 6,.move (.t 1),none,[]⟩,
 ⟨some 7,.build [.int .i64 0,.int .i64 0,.sl .nil []] [(0,1,.t 5),(2,1,.t 6)],none,[]⟩,
 ⟨none,.store false 3 (.t 4) (.t 7),none,[]⟩]
def qyb:VFn:=⟨2,[.cell 4 true 3],(.seq (.region false 1 [0,1,4] qt9) (.seq (.region false 0 [4] qt8) .ret))⟩
def qt7:List VOper:=[
 ⟨some 2,.move (.c (.d (.int .i64 0))),none,[]⟩]
def qt6:List VOper:=[
 ⟨some 4,.move (.t 0),none,[]⟩,
 ⟨some 5,.move (.t 0),none,[]⟩,
 ⟨some 6,.nilCheck (.t 5),none,[]⟩,
 ⟨some 7,.fieldAddr 2 (.t 6),none,[]⟩,
 ⟨some 8,.load false 1 (.t 7),none,[]⟩,
 ⟨some 9,.bin .mul (.t 8) (.c (.d (.int .i64 6364136223846793005))),none,[]⟩,
 ⟨some 10,.bin .add (.t 9) (.c (.d (.int .i64 1442695040888963407))),none,[]⟩,
 ⟨some 11,.nilCheck (.t 4),none,[]⟩,
 ⟨some 12,.fieldAddr 2 (.t 11),none,[]⟩,
 ⟨none,.store false 1 (.t 12) (.t 10),none,[]⟩]
def qt5:List VOper:=[
 ⟨some 13,.move (.t 0),none,[]⟩,
 ⟨some 14,.nilCheck (.t 13),none,[0]⟩,
 ⟨some 15,.fieldAddr 2 (.t 14),none,[1]⟩,
 ⟨some 16,.load false 1 (.t 15),none,[2]⟩,
 ⟨some 17,.bin .shr (.t 16) (.c (.d (.int .u64 33))),none,[3]⟩,
 ⟨some 18,.move (.t 0),none,[]⟩,
 ⟨some 19,.nilCheck (.t 18),none,[5]⟩,
 ⟨some 20,.fieldAddr 2 (.t 19),none,[6]⟩,
 ⟨some 21,.load false 1 (.t 20),none,[7]⟩,
 ⟨some 22,.bin .shr (.t 21) (.c (.d (.int .u64 45))),none,[8]⟩,
 ⟨some 23,.bin .xor (.t 17) (.t 22),none,[4,9]⟩,
 ⟨some 24,.bin .and (.t 23) (.c (.d (.int .i64 255))),none,[10]⟩,
 ⟨some 3,.move (.t 24),none,[0,1,2,3,4,5,6,7,8,9,10,11]⟩]
def qt4:List VOper:=[
 ⟨some 25,.move (.t 0),none,[]⟩,
 ⟨some 26,.nilCheck (.t 25),none,[0]⟩,
 ⟨some 27,.fieldAddr 1 (.t 26),none,[1]⟩,
 ⟨some 28,.load false 1 (.t 27),none,[2]⟩,
 ⟨some 29,.move (.t 0),none,[]⟩,
 ⟨some 30,.nilCheck (.t 29),none,[4]⟩,
 ⟨some 31,.fieldAddr 0 (.t 30),none,[5]⟩,
 ⟨some 32,.load false 1 (.t 31),none,[6]⟩,
 ⟨some 33,.len false (.t 32),none,[7]⟩,
 ⟨some 34,.bin .lss (.t 28) (.t 33),none,[3,8]⟩]
def qt3:List VOper:=[
 ⟨some 35,.move (.t 3),none,[]⟩,
 ⟨some 36,.move (.t 0),none,[]⟩,
 ⟨some 37,.nilCheck (.t 36),none,[1]⟩,
 ⟨some 38,.fieldAddr 0 (.t 37),none,[2]⟩,
 ⟨some 39,.load false 1 (.t 38),none,[3]⟩,
 ⟨some 40,.move (.t 0),none,[]⟩,
 ⟨some 41,.nilCheck (.t 40),none,[5]⟩,
 ⟨some 42,.fieldAddr 1 (.t 41),none,[6]⟩,
 ⟨some 43,.load false 1 (.t 42),none,[7]⟩,
 ⟨some 44,.indexAddr 1 none (.t 39) (.t 43),none,[4,8]⟩,
 ⟨some 45,.load false 1 (.t 44),none,[9]⟩,
 ⟨some 46,.conv (.kind .i64) (.t 45),none,[10]⟩,
 ⟨some 47,.bin .add (.t 35) (.t 46),none,[0,11]⟩,
 ⟨some 48,.bin .and (.t 47) (.c (.d (.int .i64 255))),none,[12]⟩,
 ⟨some 3,.move (.t 48),none,[0,1,2,3,4,5,6,7,8,9,10,11,12,13]⟩]
def qt2:List VOper:=[
 ⟨some 49,.move (.t 0),none,[]⟩,
 ⟨some 50,.move (.t 0),none,[]⟩,
 ⟨some 51,.nilCheck (.t 50),none,[]⟩,
 ⟨some 52,.fieldAddr 1 (.t 51),none,[]⟩,
 ⟨some 53,.load false 1 (.t 52),none,[]⟩,
 ⟨some 54,.bin .add (.t 53) (.c (.d (.int .i64 1))),none,[]⟩,
 ⟨some 55,.nilCheck (.t 49),none,[]⟩,
 ⟨some 56,.fieldAddr 1 (.t 55),none,[]⟩,
 ⟨none,.store false 1 (.t 56) (.t 54),none,[]⟩]
def qt1:List VOper:=[
 ⟨some 57,.move (.t 3),none,[]⟩,
 ⟨some 2,.move (.t 57),none,[]⟩]
def qzU:VFn:=⟨1,[.tmp 2],(.seq (.region false 0 [0] qt7) (.seq (.region false 0 [0] qt6) (.seq (.region true 0 [0,3] qt5) (.seq (.seq (.region true 0 [0,3,34] qt4) (.cond (.t 34) (.seq (.region true 0 [0,3] qt3) (.region false 0 [3] qt2)) .skip)) (.seq (.region false 0 [2] qt1) .ret)))))⟩
def qt0:List VOper:=[
 ⟨some 6,.alloc 0 [.int .i64 0,.int .i64 0,.sl .nil []],none,[]⟩]
def qj6:List VOper:=[
 ⟨some 9,.move (.t 1),none,[]⟩,
 ⟨some 10,.bin .eql (.t 9) (.c (.d (.int .i64 0))),none,[]⟩,
 ⟨some 11,.move (.t 10),none,[]⟩,
 ⟨some 12,.move (.t 0),some (11,false),[]⟩,
 ⟨some 13,.call false (.c (.fn 162 [])) [.t 12,.c (.d (.int .i64 3))],some (11,false),[]⟩,
 ⟨some 14,.pick (.t 11) (.c (.d (.bool true))) (.t 13),none,[]⟩]
def qmn:List VOper:=[
 ⟨some 15,.move (.t 2),none,[]⟩,
 ⟨some 16,.bin .gtr (.t 15) (.c (.d (.int .i64 0))),none,[]⟩,
 ⟨some 17,.move (.t 16),none,[]⟩,
 ⟨some 18,.move (.t 0),some (17,true),[]⟩,
 ⟨some 19,.call false (.c (.fn 162 [])) [.t 18,.c (.d (.int .i64 2))],some (17,true),[]⟩,
 ⟨some 20,.pick (.t 17) (.t 19) (.c (.d (.bool false))),none,[]⟩]
def qtZ:List VOper:=[
 ⟨some 21,.move (.t 0),none,[]⟩,
 ⟨some 22,.move (.t 2),none,[]⟩,
 ⟨some 23,.call false (.c (.fn 159 [])) [.t 21,.t 22],none,[]⟩,
 ⟨some 24,.call true (.c (.fn 147 [])) [.t 23],none,[]⟩,
 ⟨none,.store false 3 (.t 6) (.t 24),none,[]⟩]
def qpi:List VOper:=[
 ⟨some 25,.move (.t 0),none,[]⟩,
 ⟨some 26,.call false (.c (.fn 159 [])) [.t 25,.c (.d (.int .i64 2))],none,[]⟩,
 ⟨some 27,.bin .add (.c (.d (.int .i64 1))) (.t 26),none,[]⟩,
 ⟨some 28,.build [.int .i64 0,.int .i64 0,.sl .nil []] [(0,1,.t 27)],none,[]⟩,
 ⟨none,.store false 3 (.t 6) (.t 28),none,[]⟩]
def qph:List VOper:=[
 ⟨some 29,.move (.t 0),none,[]⟩,
 ⟨some 30,.buildSlice 1 (.int .i64 0) 5 [(0,.c (.d (.int .i64 3))),(1,.c (.d (.int .i64 4))),(2,.c (.d (.int .i64 5))),(3,.c (.d (.int .i64 5))),(4,.c (.d (.int .i64 6)))],none,[]⟩,
 ⟨some 31,.call false (.c (.fn 160 [])) [.t 29,.t 30],none,[]⟩,
 ⟨some 7,.move (.t 31),none,[]⟩]
def qpg:List VOper:=[
 ⟨some 32,.move (.t 0),none,[]⟩,
 ⟨some 33,.move (.t 1),none,[]⟩,
 ⟨some 34,.bin .sub (.t 33) (.c (.d (.int .i64 1))),none,[]⟩,
 ⟨some 35,.move (.t 2),none,[]⟩,
 ⟨some 36,.call false (.c (.fn 166 [])) [.t 32,.t 34,.t 35],none,[]⟩,
 ⟨some 37,.buildSlice 3 (.agg [.int .i64 0,.int .i64 0,.sl .nil []]) 1 [(0,.t 36)],none,[]⟩,
 ⟨some 8,.move (.t 37),none,[]⟩]
def qpf:List VOper:=[
 ⟨some 38,.move (.t 7),none,[]⟩,
 ⟨some 39,.bin .gtr (.t 38) (.c (.d (.int .i64 3))),none,[]⟩]
def qpe:List VOper:=[
 ⟨some 40,.move (.t 8),none,[]⟩,
 ⟨some 41,.move (.t 0),none,[]⟩,
 ⟨some 42,.move (.t 1),none,[]⟩,
 ⟨some 43,.bin .sub (.t 42) (.c (.d (.int .i64 1))),none,[]⟩,
 ⟨some 44,.move (.t 2),none,[]⟩,
 ⟨some 45,.call false (.c (.fn 166 [])) [.t 41,.t 43,.t 44],none,[]⟩,
 ⟨some 46,.buildSlice 3 (.agg [.int .i64 0,.int .i64 0,.sl .nil []]) 1 [(0,.t 45)],none,[]⟩,
 ⟨some 47,.append 3 40 (.t 40) (.t 46),none,[]⟩,
 ⟨some 8,.move (.t 47),none,[]⟩]
def qpd:List VOper:=[
 ⟨some 48,.move (.t 7),none,[]⟩,
 ⟨some 49,.move (.t 8),none,[]⟩,
 ⟨some 50,.call true (.c (.fn 164 [])) [.t 48,.t 49],none,[]⟩,
 ⟨none,.store false 3 (.t 6) (.t 50),none,[]⟩]
def qBF:VFn:=⟨3,[.cell 6 true 3],(.seq (.region false 1 [0,1,2,6] qt0) (.seq (.seq (.region false 0 [0,1,2,6,14] qj6) (.cond (.t 14) (.seq (.seq (.region false 0 [0,2,6,20] qmn) (.cond (.t 20) (.seq (.region false 0 [6] qtZ) .ret) .skip)) (.seq (.region false 0 [6] qpi) .ret)) .skip)) (.seq (.region false 0 [0,1,2,6,7] qph) (.seq (.region false 0 [0,1,2,6,7,8] qpg) (.seq (.seq (.region false 0 [0,1,2,6,7,8,39] qpf) (.cond (.t 39) (.region false 0 [6,7,8] qpe) .skip)) (.seq (.region false 0 [6] qpd) .ret))))))⟩
def qhe:List VOper:=[
 ⟨some 3,.box 0 (.t 1),none,[]⟩,
 ⟨some 4,.alloc 1 [.int .i64 0,.int .i64 0,.sl .nil []],none,[]⟩]
def qhd:List VOper:=[
 ⟨some 8,.buildSlice 3 (.agg [.int .i64 0,.int .i64 0,.sl .nil []]) 0 [],none,[]⟩,
 ⟨some 5,.move (.t 8),none,[]⟩]
def qhc:List VOper:=[
 ⟨some 9,.fieldAddr 2 (.t 3),none,[]⟩,
 ⟨some 10,.load false 1 (.t 9),none,[]⟩,
 ⟨some 11,.len false (.t 10),none,[]⟩,
 ⟨some 12,.move (.c (.d (.int .i64 0))),none,[]⟩]
def qmm:List VOper:=[
 ⟨some 13,.bin .lss (.t 12) (.t 11),none,[]⟩]
def qml:List VOper:=[
 ⟨some 14,.indexAddr 3 none (.t 10) (.t 12),none,[]⟩,
 ⟨some 15,.load true 3 (.t 14),none,[]⟩,
 ⟨some 7,.alloc 0 [.int .i64 0,.int .i64 0,.sl .nil []],none,[]⟩,
 ⟨none,.store false 3 (.t 7) (.t 15),none,[]⟩]
def qmk:List VOper:=[
 ⟨some 16,.move (.t 0),none,[]⟩,
 ⟨some 17,.load true 3 (.t 7),none,[]⟩,
 ⟨some 18,.call true (.c (.fn 169 [])) [.t 16,.t 17],none,[]⟩,
 ⟨none,.store false 3 (.t 7) (.t 18),none,[]⟩]
def qmj:List VOper:=[
 ⟨some 19,.move (.t 0),none,[]⟩,
 ⟨some 20,.fieldAddr 0 (.t 3),none,[]⟩,
 ⟨some 21,.load false 1 (.t 20),none,[]⟩,
 ⟨some 22,.call true (.c (.fn 34 [])) [.t 19,.t 21],none,[]⟩,
 ⟨some 23,.move (.t 22),none,[]⟩,
 ⟨some 24,.fieldAddr 0 (.t 7),some (23,true),[]⟩,
 ⟨some 25,.load false 1 (.t 24),some (23,true),[]⟩,
 ⟨some 26,.fieldAddr 0 (.t 3),some (23,true),[]⟩,
 ⟨some 27,.load false 1 (.t 26),some (23,true),[]⟩,
 ⟨some 28,.bin .eql (.t 25) (.t 27),some (23,true),[]⟩,
 ⟨some 29,.pick (.t 23) (.t 28) (.c (.d (.bool false))),none,[]⟩]
def qmi:List VOper:=[
 ⟨some 30,.move (.t 5),none,[]⟩,
 ⟨some 31,.fieldAddr 2 (.t 7),none,[]⟩,
 ⟨some 32,.load false 1 (.t 31),none,[]⟩,
 ⟨some 33,.append 3 40 (.t 30) (.t 32),none,[]⟩,
 ⟨some 5,.move (.t 33),none,[]⟩]
def qmh:List VOper:=[
 ⟨some 34,.move (.t 5),none,[]⟩,
 ⟨some 35,.load true 3 (.t 7),none,[]⟩,
 ⟨some 36,.buildSlice 3 (.agg [.int .i64 0,.int .i64 0,.sl .nil []]) 1 [(0,.t 35)],none,[]⟩,
 ⟨some 37,.append 3 40 (.t 34) (.t 36),none,[]⟩,
 ⟨some 5,.move (.t 37),none,[]⟩]
def qmg:List VOper:=[
 ⟨some 38,.bin .add (.t 12) (.c (.d (.int .i64 1))),none,[]⟩,
 ⟨some 12,.move (.t 38),none,[]⟩]
def qgn:VCode:=(.seq (.region false 0 [0,3,4,5,10,11,12,13] qmm) (.seq (.cond (.t 13) .skip (.exit 0)) (.seq (.block 1 (.seq (.region false 1 [0,3,4,5,7,10,11,12] qml) (.seq (.region false 0 [0,3,4,5,7,10,11,12] qmk) (.seq (.region false 0 [0,3,4,5,7,10,11,12,29] qmj) (.cond (.t 29) (.region false 0 [0,3,4,5,10,11,12] qmi) (.region false 0 [0,3,4,5,10,11,12] qmh)))))) (.region false 0 [0,3,4,5,10,11,12] qmg))))
def qd7:List VOper:=[
 ⟨some 39,.move (.t 0),none,[]⟩,
 ⟨some 40,.fieldAddr 0 (.t 3),none,[]⟩,
 ⟨some 41,.load false 1 (.t 40),none,[]⟩,
 ⟨some 42,.call true (.c (.fn 34 [])) [.t 39,.t 41],none,[]⟩]
def qiu:List VOper:=[
 ⟨some 43,.move (.t 5),none,[]⟩,
 ⟨some 44,.call false (.c (.fn 170 [])) [.t 43,.c (.fn 6 [])],none,[]⟩]
def qit:List VOper:=[
 ⟨some 45,.move (.t 5),none,[]⟩,
 ⟨some 46,.fieldAddr 2 (.t 3),none,[]⟩,
 ⟨none,.store false 1 (.t 46) (.t 45),none,[]⟩]
def qis:List VOper:=[
 ⟨some 47,.load true 3 (.t 3),none,[]⟩,
 ⟨none,.store false 3 (.t 4) (.t 47),none,[]⟩]
def qGP:VFn:=⟨2,[.cell 4 true 3],(.seq (.region false 2 [0,3,4] qhe) (.seq (.region false 0 [0,3,4,5] qhd) (.seq (.seq (.region false 0 [0,3,4,5,10,11,12] qhc) (.block 0 (.loop [0,3,4,5,10,11,12] qgn))) (.seq (.seq (.region false 0 [3,4,5,42] qd7) (.cond (.t 42) (.region false 0 [3,4,5] qiu) .skip)) (.seq (.region false 0 [3,4] qit) (.seq (.region false 0 [4] qis) .ret))))))⟩
def qtY:List VOper:=[
 ⟨some 4,.move (.t 0),none,[]⟩,
 ⟨some 5,.move (.t 0),none,[]⟩,
 ⟨some 6,.len false (.t 5),none,[]⟩,
 ⟨some 7,.move (.t 1),none,[]⟩,
 ⟨some 8,.call false (.c (.fn 171 [])) [.t 4,.t 6,.t 7],none,[]⟩]
def qya:VFn:=⟨2,[],(.region false 0 [] qtY)⟩
def qtX:List VOper:=[
 ⟨some 6,.move (.c (.d (.int .i64 20))),none,[]⟩]
def qtW:List VOper:=[
 ⟨some 10,.move (.t 6),none,[]⟩,
 ⟨some 7,.move (.c (.d (.int .i64 0))),none,[]⟩,
 ⟨some 8,.move (.t 10),none,[]⟩]
def qpc:List VOper:=[
 ⟨some 11,.move (.t 8),none,[]⟩,
 ⟨some 12,.move (.t 1),none,[]⟩,
 ⟨some 13,.bin .leq (.t 11) (.t 12),none,[]⟩]
def qyp:List VOper:=[
 ⟨some 14,.move (.t 0),none,[]⟩,
 ⟨some 15,.move (.t 7),none,[]⟩,
 ⟨some 16,.move (.t 8),none,[]⟩,
 ⟨some 17,.move (.t 2),none,[]⟩,
 ⟨some 18,.call false (.c (.fn 172 [])) [.t 14,.t 15,.t 16,.t 17],none,[]⟩]
def qyo:List VOper:=[
 ⟨some 19,.move (.t 8),none,[]⟩,
 ⟨some 7,.move (.t 19),none,[]⟩]
def qyn:List VOper:=[
 ⟨some 20,.move (.t 8),none,[]⟩,
 ⟨some 21,.move (.t 6),none,[]⟩,
 ⟨some 22,.bin .add (.t 20) (.t 21),none,[]⟩,
 ⟨some 8,.move (.t 22),none,[]⟩]
def qjg:VCode:=(.seq (.seq (.region false 0 [0,1,2,6,7,8,13] qpc) (.cond (.t 13) .skip (.exit 0))) (.block 1 (.seq (.region false 0 [0,1,2,6,8] qyp) (.seq (.region false 0 [0,1,2,6,7,8] qyo) (.region false 0 [0,1,2,6,7,8] qyn)))))
def qtS:List VOper:=[
 ⟨some 23,.move (.t 0),none,[]⟩,
 ⟨some 24,.move (.t 7),none,[]⟩,
 ⟨some 25,.move (.t 1),none,[]⟩,
 ⟨some 26,.move (.t 2),none,[]⟩,
 ⟨some 27,.call false (.c (.fn 172 [])) [.t 23,.t 24,.t 25,.t 26],none,[]⟩]
def qmf:List VOper:=[
 ⟨some 28,.move (.t 6),none,[]⟩,
 ⟨some 29,.move (.t 1),none,[]⟩,
 ⟨some 30,.bin .lss (.t 28) (.t 29),none,[]⟩]
def qtR:List VOper:=[
 ⟨some 31,.move (.t 6),none,[]⟩,
 ⟨some 32,.bin .mul (.c (.d (.int .i64 2))) (.t 31),none,[]⟩,
 ⟨some 7,.move (.c (.d (.int .i64 0))),none,[]⟩,
 ⟨some 8,.move (.t 32),none,[]⟩]
def qtQ:List VOper:=[
 ⟨some 33,.move (.t 8),none,[]⟩,
 ⟨some 34,.move (.t 1),none,[]⟩,
 ⟨some 35,.bin .leq (.t 33) (.t 34),none,[]⟩]
def qtV:List VOper:=[
 ⟨some 36,.move (.t 0),none,[]⟩,
 ⟨some 37,.move (.t 7),none,[]⟩,
 ⟨some 38,.move (.t 7),none,[]⟩,
 ⟨some 39,.move (.t 6),none,[]⟩,
 ⟨some 40,.bin .add (.t 38) (.t 39),none,[]⟩,
 ⟨some 41,.move (.t 8),none,[]⟩,
 ⟨some 42,.move (.t 2),none,[]⟩,
 ⟨some 43,.call false (.c (.fn 173 [])) [.t 36,.t 37,.t 40,.t 41,.t 42],none,[]⟩]
def qtU:List VOper:=[
 ⟨some 44,.move (.t 8),none,[]⟩,
 ⟨some 7,.move (.t 44),none,[]⟩]
def qtT:List VOper:=[
 ⟨some 45,.move (.t 8),none,[]⟩,
 ⟨some 46,.move (.t 6),none,[]⟩,
 ⟨some 47,.bin .mul (.c (.d (.int .i64 2))) (.t 46),none,[]⟩,
 ⟨some 48,.bin .add (.t 45) (.t 47),none,[]⟩,
 ⟨some 8,.move (.t 48),none,[]⟩]
def qng:VCode:=(.seq (.seq (.region false 0 [0,1,2,6,7,8,35] qtQ) (.cond (.t 35) .skip (.exit 4))) (.block 5 (.seq (.region false 0 [0,1,2,6,8] qtV) (.seq (.region false 0 [0,1,2,6,7,8] qtU) (.region false 0 [0,1,2,6,7,8] qtT)))))
def qir:List VOper:=[
 ⟨some 49,.move (.t 7),none,[]⟩,
 ⟨some 50,.move (.t 6),none,[]⟩,
 ⟨some 51,.bin .add (.t 49) (.t 50),none,[]⟩,
 ⟨some 9,.move (.t 51),none,[]⟩]
def qiq:List VOper:=[
 ⟨some 52,.move (.t 9),none,[]⟩,
 ⟨some 53,.move (.t 1),none,[]⟩,
 ⟨some 54,.bin .lss (.t 52) (.t 53),none,[]⟩]
def qip:List VOper:=[
 ⟨some 55,.move (.t 0),none,[]⟩,
 ⟨some 56,.move (.t 7),none,[]⟩,
 ⟨some 57,.move (.t 9),none,[]⟩,
 ⟨some 58,.move (.t 1),none,[]⟩,
 ⟨some 59,.move (.t 2),none,[]⟩,
 ⟨some 60,.call false (.c (.fn 173 [])) [.t 55,.t 56,.t 57,.t 58,.t 59],none,[]⟩]
def qio:List VOper:=[
 ⟨some 61,.move (.t 6),none,[]⟩,
 ⟨some 62,.bin .mul (.t 61) (.c (.d (.int .i64 2))),none,[]⟩,
 ⟨some 6,.move (.t 62),none,[]⟩]
def qhB:VCode:=(.seq (.seq (.region false 0 [0,1,2,6,30] qmf) (.cond (.t 30) .skip (.exit 2))) (.block 3 (.seq (.region false 0 [0,1,2,6,7,8] qtR) (.seq (.block 4 (.loop [0,1,2,6,7,8] qng)) (.seq (.seq (.region false 0 [0,1,2,6,7,9] qir) (.seq (.region false 0 [0,1,2,6,7,9,54] qiq) (.cond (.t 54) (.region false 0 [0,1,2,6] qip) .skip))) (.region false 0 [0,1,2,6] qio))))))
def qx9:VFn:=⟨3,[],(.seq (.region false 0 [0,1,2,6] qtX) (.seq (.region false 0 [0,1,2,6,7,8] qtW) (.seq (.block 0 (.loop [0,1,2,6,7,8] qjg)) (.seq (.region false 0 [0,1,2,6] qtS) (.block 2 (.loop [0,1,2,6] qhB))))))⟩
def qme:List VOper:=[
 ⟨some 10,.move (.t 1),none,[]⟩,
 ⟨some 11,.bin .add (.t 10) (.c (.d (.int .i64 1))),none,[]⟩,
 ⟨some 8,.move (.t 11),none,[]⟩]
def qj5:List VOper:=[
 ⟨some 12,.move (.t 8),none,[]⟩,
 ⟨some 13,.move (.t 2),none,[]⟩,
 ⟨some 14,.bin .lss (.t 12) (.t 13),none,[]⟩]
def qtO:List VOper:=[
 ⟨some 17,.move (.t 8),none,[]⟩,
 ⟨some 9,.move (.t 17),none,[]⟩]
def qpb:List VOper:=[
 ⟨some 18,.move (.t 9),none,[]⟩,
 ⟨some 19,.move (.t 1),none,[]⟩,
 ⟨some 20,.bin .gtr (.t 18) (.t 19),none,[0,1]⟩,
 ⟨some 21,.move (.t 20),none,[2]⟩,
 ⟨some 22,.move (.t 3),some (21,true),[3]⟩,
 ⟨some 23,.move (.t 0),some (21,true),[3]⟩,
 ⟨some 24,.move (.t 9),some (21,true),[3]⟩,
 ⟨some 25,.indexAddr 3 none (.t 23) (.t 24),some (21,true),[3,5,6]⟩,
 ⟨some 26,.load true 3 (.t 25),some (21,true),[3,7]⟩,
 ⟨some 27,.move (.t 0),some (21,true),[3]⟩,
 ⟨some 28,.move (.t 9),some (21,true),[3]⟩,
 ⟨some 29,.bin .sub (.t 28) (.c (.d (.int .i64 1))),some (21,true),[3,10]⟩,
 ⟨some 30,.indexAddr 3 none (.t 27) (.t 29),some (21,true),[3,9,11]⟩,
 ⟨some 31,.load true 3 (.t 30),some (21,true),[3,12]⟩,
 ⟨some 32,.call false (.t 22) [.t 26,.t 31],some (21,true),[3,4,8,13]⟩,
 ⟨some 33,.bin .lss (.t 32) (.c (.d (.int .i64 0))),some (21,true),[3,14]⟩,
 ⟨some 34,.pick (.t 21) (.t 33) (.c (.d (.bool false))),none,[3,15]⟩]
def qpa:List VOper:=[
 ⟨some 37,.move (.t 0),none,[]⟩,
 ⟨some 38,.move (.t 9),none,[]⟩,
 ⟨some 39,.move (.t 0),none,[]⟩,
 ⟨some 40,.move (.t 9),none,[]⟩,
 ⟨some 41,.bin .sub (.t 40) (.c (.d (.int .i64 1))),none,[3]⟩,
 ⟨some 42,.move (.t 0),none,[]⟩,
 ⟨some 43,.move (.t 9),none,[]⟩,
 ⟨some 44,.bin .sub (.t 43) (.c (.d (.int .i64 1))),none,[6]⟩,
 ⟨some 45,.indexAddr 3 none (.t 42) (.t 44),none,[5,7]⟩,
 ⟨some 46,.load true 3 (.t 45),none,[8]⟩,
 ⟨some 47,.move (.t 0),none,[]⟩,
 ⟨some 48,.move (.t 9),none,[]⟩,
 ⟨some 49,.indexAddr 3 none (.t 47) (.t 48),none,[10,11]⟩,
 ⟨some 50,.load true 3 (.t 49),none,[12]⟩,
 ⟨some 51,.indexAddr 3 none (.t 37) (.t 38),none,[0,1,5,6,7,8,9,13]⟩,
 ⟨none,.store false 3 (.t 51) (.t 46),none,[0,1,5,6,7,8,9,13,14]⟩,
 ⟨some 52,.indexAddr 3 none (.t 39) (.t 41),none,[0,1,2,3,4,5,6,7,8,9,10,11,12,13,14,15]⟩,
 ⟨none,.store false 3 (.t 52) (.t 50),none,[0,1,2,3,4,5,6,7,8,9,10,11,12,13,14,15,16]⟩]
def qtN:List VOper:=[
 ⟨some 35,.move (.t 9),none,[]⟩,
 ⟨some 36,.bin .sub (.t 35) (.c (.d (.int .i64 1))),none,[]⟩,
 ⟨some 9,.move (.t 36),none,[]⟩]
def qnf:VCode:=(.seq (.seq (.region true 0 [0,1,2,3,8,9,34] qpb) (.cond (.t 34) .skip (.exit 2))) (.seq (.block 3 (.region true 0 [0,1,2,3,8,9] qpa)) (.region false 0 [0,1,2,3,8,9] qtN)))
def qtP:List VOper:=[
 ⟨some 15,.move (.t 8),none,[]⟩,
 ⟨some 16,.bin .add (.t 15) (.c (.d (.int .i64 1))),none,[]⟩,
 ⟨some 8,.move (.t 16),none,[]⟩]
def qhA:VCode:=(.seq (.seq (.region false 0 [0,1,2,3,8,14] qj5) (.cond (.t 14) .skip (.exit 0))) (.seq (.block 1 (.seq (.region false 0 [0,1,2,3,8,9] qtO) (.block 2 (.loop [0,1,2,3,8,9] qnf)))) (.region false 0 [0,1,2,3,8] qtP)))
def qwf:VFn:=⟨4,[],(.seq (.region false 0 [0,1,2,3,8] qme) (.block 0 (.loop [0,1,2,3,8] qhA)))⟩
def qmd:List VOper:=[
 ⟨some 25,.move (.t 2),none,[]⟩,
 ⟨some 26,.move (.t 1),none,[]⟩,
 ⟨some 27,.bin .sub (.t 25) (.t 26),none,[]⟩,
 ⟨some 28,.bin .eql (.t 27) (.c (.d (.int .i64 1))),none,[]⟩]
def qym:List VOper:=[
 ⟨some 29,.move (.t 2),none,[]⟩,
 ⟨some 10,.move (.t 29),none,[]⟩]
def qyl:List VOper:=[
 ⟨some 30,.move (.t 3),none,[]⟩,
 ⟨some 11,.move (.t 30),none,[]⟩]
def qo9:List VOper:=[
 ⟨some 31,.move (.t 10),none,[]⟩,
 ⟨some 32,.move (.t 11),none,[]⟩,
 ⟨some 33,.bin .lss (.t 31) (.t 32),none,[]⟩]
def qtD:List VOper:=[
 ⟨some 34,.move (.t 10),none,[]⟩,
 ⟨some 35,.move (.t 11),none,[]⟩,
 ⟨some 36,.bin .add (.t 34) (.t 35),none,[]⟩,
 ⟨some 37,.conv (.kind .u64) (.t 36),none,[]⟩,
 ⟨some 38,.bin .shr (.t 37) (.c (.d (.int .u64 1))),none,[]⟩,
 ⟨some 39,.conv (.kind .i64) (.t 38),none,[]⟩,
 ⟨some 12,.move (.t 39),none,[]⟩]
def qo8:List VOper:=[
 ⟨some 40,.move (.t 4),none,[]⟩,
 ⟨some 41,.move (.t 0),none,[]⟩,
 ⟨some 42,.move (.t 12),none,[]⟩,
 ⟨some 43,.indexAddr 3 none (.t 41) (.t 42),none,[1,2]⟩,
 ⟨some 44,.load true 3 (.t 43),none,[3]⟩,
 ⟨some 45,.move (.t 0),none,[]⟩,
 ⟨some 46,.move (.t 1),none,[]⟩,
 ⟨some 47,.indexAddr 3 none (.t 45) (.t 46),none,[5,6]⟩,
 ⟨some 48,.load true 3 (.t 47),none,[7]⟩,
 ⟨some 49,.call false (.t 40) [.t 44,.t 48],none,[0,4,8]⟩,
 ⟨some 50,.bin .lss (.t 49) (.c (.d (.int .i64 0))),none,[9]⟩]
def qtC:List VOper:=[
 ⟨some 51,.move (.t 12),none,[]⟩,
 ⟨some 52,.bin .add (.t 51) (.c (.d (.int .i64 1))),none,[]⟩,
 ⟨some 10,.move (.t 52),none,[]⟩]
def qtB:List VOper:=[
 ⟨some 53,.move (.t 12),none,[]⟩,
 ⟨some 11,.move (.t 53),none,[]⟩]
def qkq:VCode:=(.seq (.seq (.region false 0 [0,1,4,10,11,33] qo9) (.cond (.t 33) .skip (.exit 0))) (.block 1 (.seq (.region false 0 [0,1,4,10,11,12] qtD) (.seq (.region true 0 [0,1,4,10,11,12,50] qo8) (.cond (.t 50) (.region false 0 [0,1,4,10,11] qtC) (.region false 0 [0,1,4,10,11] qtB))))))
def qyk:List VOper:=[
 ⟨some 54,.move (.t 1),none,[]⟩,
 ⟨some 13,.move (.t 54),none,[]⟩]
def qtA:List VOper:=[
 ⟨some 55,.move (.t 13),none,[]⟩,
 ⟨some 56,.move (.t 10),none,[]⟩,
 ⟨some 57,.bin .sub (.t 56) (.c (.d (.int .i64 1))),none,[]⟩,
 ⟨some 58,.bin .lss (.t 55) (.t 57),none,[]⟩]
def qk3:List VOper:=[
 ⟨some 61,.move (.t 0),none,[]⟩,
 ⟨some 62,.move (.t 13),none,[]⟩,
 ⟨some 63,.move (.t 0),none,[]⟩,
 ⟨some 64,.move (.t 13),none,[]⟩,
 ⟨some 65,.bin .add (.t 64) (.c (.d (.int .i64 1))),none,[3]⟩,
 ⟨some 66,.move (.t 0),none,[]⟩,
 ⟨some 67,.move (.t 13),none,[]⟩,
 ⟨some 68,.bin .add (.t 67) (.c (.d (.int .i64 1))),none,[6]⟩,
 ⟨some 69,.indexAddr 3 none (.t 66) (.t 68),none,[5,7]⟩,
 ⟨some 70,.load true 3 (.t 69),none,[8]⟩,
 ⟨some 71,.move (.t 0),none,[]⟩,
 ⟨some 72,.move (.t 13),none,[]⟩,
 ⟨some 73,.indexAddr 3 none (.t 71) (.t 72),none,[10,11]⟩,
 ⟨some 74,.load true 3 (.t 73),none,[12]⟩,
 ⟨some 75,.indexAddr 3 none (.t 61) (.t 62),none,[0,1,5,6,7,8,9,13]⟩,
 ⟨none,.store false 3 (.t 75) (.t 70),none,[0,1,5,6,7,8,9,13,14]⟩,
 ⟨some 76,.indexAddr 3 none (.t 63) (.t 65),none,[0,1,2,3,4,5,6,7,8,9,10,11,12,13,14,15]⟩,
 ⟨none,.store false 3 (.t 76) (.t 74),none,[0,1,2,3,4,5,6,7,8,9,10,11,12,13,14,15,16]⟩]
def qtM:List VOper:=[
 ⟨some 59,.move (.t 13),none,[]⟩,
 ⟨some 60,.bin .add (.t 59) (.c (.d (.int .i64 1))),none,[]⟩,
 ⟨some 13,.move (.t 60),none,[]⟩]
def qne:VCode:=(.seq (.seq (.region false 0 [0,10,13,58] qtA) (.cond (.t 58) .skip (.exit 2))) (.seq (.block 3 (.region true 0 [0,10,13] qk3)) (.region false 0 [0,10,13] qtM)))
def qk2:List VOper:=[
 ⟨some 77,.move (.t 3),none,[]⟩,
 ⟨some 78,.move (.t 2),none,[]⟩,
 ⟨some 79,.bin .sub (.t 77) (.t 78),none,[]⟩,
 ⟨some 80,.bin .eql (.t 79) (.c (.d (.int .i64 1))),none,[]⟩]
def qtL:List VOper:=[
 ⟨some 81,.move (.t 1),none,[]⟩,
 ⟨some 14,.move (.t 81),none,[]⟩]
def qtK:List VOper:=[
 ⟨some 82,.move (.t 2),none,[]⟩,
 ⟨some 15,.move (.t 82),none,[]⟩]
def qk1:List VOper:=[
 ⟨some 83,.move (.t 14),none,[]⟩,
 ⟨some 84,.move (.t 15),none,[]⟩,
 ⟨some 85,.bin .lss (.t 83) (.t 84),none,[]⟩]
def qn8:List VOper:=[
 ⟨some 86,.move (.t 14),none,[]⟩,
 ⟨some 87,.move (.t 15),none,[]⟩,
 ⟨some 88,.bin .add (.t 86) (.t 87),none,[]⟩,
 ⟨some 89,.conv (.kind .u64) (.t 88),none,[]⟩,
 ⟨some 90,.bin .shr (.t 89) (.c (.d (.int .u64 1))),none,[]⟩,
 ⟨some 91,.conv (.kind .i64) (.t 90),none,[]⟩,
 ⟨some 16,.move (.t 91),none,[]⟩]
def qk0:List VOper:=[
 ⟨some 92,.move (.t 4),none,[]⟩,
 ⟨some 93,.move (.t 0),none,[]⟩,
 ⟨some 94,.move (.t 2),none,[]⟩,
 ⟨some 95,.indexAddr 3 none (.t 93) (.t 94),none,[1,2]⟩,
 ⟨some 96,.load true 3 (.t 95),none,[3]⟩,
 ⟨some 97,.move (.t 0),none,[]⟩,
 ⟨some 98,.move (.t 16),none,[]⟩,
 ⟨some 99,.indexAddr 3 none (.t 97) (.t 98),none,[5,6]⟩,
 ⟨some 100,.load true 3 (.t 99),none,[7]⟩,
 ⟨some 101,.call false (.t 92) [.t 96,.t 100],none,[0,4,8]⟩,
 ⟨some 102,.bin .lss (.t 101) (.c (.d (.int .i64 0))),none,[9]⟩,
 ⟨some 103,.not (.t 102),none,[10]⟩]
def qn7:List VOper:=[
 ⟨some 104,.move (.t 16),none,[]⟩,
 ⟨some 105,.bin .add (.t 104) (.c (.d (.int .i64 1))),none,[]⟩,
 ⟨some 14,.move (.t 105),none,[]⟩]
def qn6:List VOper:=[
 ⟨some 106,.move (.t 16),none,[]⟩,
 ⟨some 15,.move (.t 106),none,[]⟩]
def qkp:VCode:=(.seq (.seq (.region false 0 [0,2,4,14,15,85] qk1) (.cond (.t 85) .skip (.exit 4))) (.block 5 (.seq (.region false 0 [0,2,4,14,15,16] qn8) (.seq (.region true 0 [0,2,4,14,15,16,103] qk0) (.cond (.t 103) (.region false 0 [0,2,4,14,15] qn7) (.region false 0 [0,2,4,14,15] qn6))))))
def qtJ:List VOper:=[
 ⟨some 107,.move (.t 2),none,[]⟩,
 ⟨some 17,.move (.t 107),none,[]⟩]
def qn5:List VOper:=[
 ⟨some 108,.move (.t 17),none,[]⟩,
 ⟨some 109,.move (.t 14),none,[]⟩,
 ⟨some 110,.bin .gtr (.t 108) (.t 109),none,[]⟩]
def qkZ:List VOper:=[
 ⟨some 113,.move (.t 0),none,[]⟩,
 ⟨some 114,.move (.t 17),none,[]⟩,
 ⟨some 115,.move (.t 0),none,[]⟩,
 ⟨some 116,.move (.t 17),none,[]⟩,
 ⟨some 117,.bin .sub (.t 116) (.c (.d (.int .i64 1))),none,[3]⟩,
 ⟨some 118,.move (.t 0),none,[]⟩,
 ⟨some 119,.move (.t 17),none,[]⟩,
 ⟨some 120,.bin .sub (.t 119) (.c (.d (.int .i64 1))),none,[6]⟩,
 ⟨some 121,.indexAddr 3 none (.t 118) (.t 120),none,[5,7]⟩,
 ⟨some 122,.load true 3 (.t 121),none,[8]⟩,
 ⟨some 123,.move (.t 0),none,[]⟩,
 ⟨some 124,.move (.t 17),none,[]⟩,
 ⟨some 125,.indexAddr 3 none (.t 123) (.t 124),none,[10,11]⟩,
 ⟨some 126,.load true 3 (.t 125),none,[12]⟩,
 ⟨some 127,.indexAddr 3 none (.t 113) (.t 114),none,[0,1,5,6,7,8,9,13]⟩,
 ⟨none,.store false 3 (.t 127) (.t 122),none,[0,1,5,6,7,8,9,13,14]⟩,
 ⟨some 128,.indexAddr 3 none (.t 115) (.t 117),none,[0,1,2,3,4,5,6,7,8,9,10,11,12,13,14,15]⟩,
 ⟨none,.store false 3 (.t 128) (.t 126),none,[0,1,2,3,4,5,6,7,8,9,10,11,12,13,14,15,16]⟩]
def qtI:List VOper:=[
 ⟨some 111,.move (.t 17),none,[]⟩,
 ⟨some 112,.bin .sub (.t 111) (.c (.d (.int .i64 1))),none,[]⟩,
 ⟨some 17,.move (.t 112),none,[]⟩]
def qnd:VCode:=(.seq (.seq (.region false 0 [0,14,17,110] qn5) (.cond (.t 110) .skip (.exit 6))) (.seq (.block 7 (.region true 0 [0,14,17] qkZ)) (.region false 0 [0,14,17] qtI)))
def qn4:List VOper:=[
 ⟨some 129,.move (.t 1),none,[]⟩,
 ⟨some 130,.move (.t 3),none,[]⟩,
 ⟨some 131,.bin .add (.t 129) (.t 130),none,[]⟩,
 ⟨some 132,.conv (.kind .u64) (.t 131),none,[]⟩,
 ⟨some 133,.bin .shr (.t 132) (.c (.d (.int .u64 1))),none,[]⟩,
 ⟨some 134,.conv (.kind .i64) (.t 133),none,[]⟩,
 ⟨some 18,.move (.t 134),none,[]⟩]
def qn3:List VOper:=[
 ⟨some 135,.move (.t 18),none,[]⟩,
 ⟨some 136,.move (.t 2),none,[]⟩,
 ⟨some 137,.bin .add (.t 135) (.t 136),none,[]⟩,
 ⟨some 19,.move (.t 137),none,[]⟩]
def qn2:List VOper:=[
 ⟨some 20,.move (.c (.d (.int .i64 0))),none,[]⟩,
 ⟨some 21,.move (.c (.d (.int .i64 0))),none,[]⟩]
def qn1:List VOper:=[
 ⟨some 138,.move (.t 2),none,[]⟩,
 ⟨some 139,.move (.t 18),none,[]⟩,
 ⟨some 140,.bin .gtr (.t 138) (.t 139),none,[]⟩]
def qtH:List VOper:=[
 ⟨some 141,.move (.t 19),none,[]⟩,
 ⟨some 142,.move (.t 3),none,[]⟩,
 ⟨some 143,.bin .sub (.t 141) (.t 142),none,[]⟩,
 ⟨some 20,.move (.t 143),none,[]⟩]
def qtG:List VOper:=[
 ⟨some 144,.move (.t 18),none,[]⟩,
 ⟨some 21,.move (.t 144),none,[]⟩]
def qtF:List VOper:=[
 ⟨some 145,.move (.t 1),none,[]⟩,
 ⟨some 20,.move (.t 145),none,[]⟩]
def qtE:List VOper:=[
 ⟨some 146,.move (.t 2),none,[]⟩,
 ⟨some 21,.move (.t 146),none,[]⟩]
def qn0:List VOper:=[
 ⟨some 147,.move (.t 19),none,[]⟩,
 ⟨some 148,.bin .sub (.t 147) (.c (.d (.int .i64 1))),none,[]⟩,
 ⟨some 22,.move (.t 148),none,[]⟩]
def qkY:List VOper:=[
 ⟨some 149,.move (.t 20),none,[]⟩,
 ⟨some 150,.move (.t 21),none,[]⟩,
 ⟨some 151,.bin .lss (.t 149) (.t 150),none,[]⟩]
def qnZ:List VOper:=[
 ⟨some 152,.move (.t 20),none,[]⟩,
 ⟨some 153,.move (.t 21),none,[]⟩,
 ⟨some 154,.bin .add (.t 152) (.t 153),none,[]⟩,
 ⟨some 155,.conv (.kind .u64) (.t 154),none,[]⟩,
 ⟨some 156,.bin .shr (.t 155) (.c (.d (.int .u64 1))),none,[]⟩,
 ⟨some 157,.conv (.kind .i64) (.t 156),none,[]⟩,
 ⟨some 23,.move (.t 157),none,[]⟩]
def qkX:List VOper:=[
 ⟨some 158,.move (.t 4),none,[]⟩,
 ⟨some 159,.move (.t 0),none,[]⟩,
 ⟨some 160,.move (.t 22),none,[]⟩,
 ⟨some 161,.move (.t 23),none,[]⟩,
 ⟨some 162,.bin .sub (.t 160) (.t 161),none,[2,3]⟩,
 ⟨some 163,.indexAddr 3 none (.t 159) (.t 162),none,[1,4]⟩,
 ⟨some 164,.load true 3 (.t 163),none,[5]⟩,
 ⟨some 165,.move (.t 0),none,[]⟩,
 ⟨some 166,.move (.t 23),none,[]⟩,
 ⟨some 167,.indexAddr 3 none (.t 165) (.t 166),none,[7,8]⟩,
 ⟨some 168,.load true 3 (.t 167),none,[9]⟩,
 ⟨some 169,.call false (.t 158) [.t 164,.t 168],none,[0,6,10]⟩,
 ⟨some 170,.bin .lss (.t 169) (.c (.d (.int .i64 0))),none,[11]⟩,
 ⟨some 171,.not (.t 170),none,[12]⟩]
def qnY:List VOper:=[
 ⟨some 172,.move (.t 23),none,[]⟩,
 ⟨some 173,.bin .add (.t 172) (.c (.d (.int .i64 1))),none,[]⟩,
 ⟨some 20,.move (.t 173),none,[]⟩]
def qnX:List VOper:=[
 ⟨some 174,.move (.t 23),none,[]⟩,
 ⟨some 21,.move (.t 174),none,[]⟩]
def qgm:VCode:=(.seq (.seq (.region false 0 [0,1,2,3,4,18,19,20,21,22,151] qkY) (.cond (.t 151) .skip (.exit 8))) (.block 9 (.seq (.region false 0 [0,1,2,3,4,18,19,20,21,22,23] qnZ) (.seq (.region true 0 [0,1,2,3,4,18,19,20,21,22,23,171] qkX) (.cond (.t 171) (.region false 0 [0,1,2,3,4,18,19,20,21,22] qnY) (.region false 0 [0,1,2,3,4,18,19,20,21,22] qnX))))))
def qin:List VOper:=[
 ⟨some 175,.move (.t 19),none,[]⟩,
 ⟨some 176,.move (.t 20),none,[]⟩,
 ⟨some 177,.bin .sub (.t 175) (.t 176),none,[]⟩,
 ⟨some 24,.move (.t 177),none,[]⟩]
def qim:List VOper:=[
 ⟨some 178,.move (.t 20),none,[]⟩,
 ⟨some 179,.move (.t 2),none,[]⟩,
 ⟨some 180,.bin .lss (.t 178) (.t 179),none,[]⟩,
 ⟨some 181,.move (.t 180),none,[]⟩,
 ⟨some 182,.move (.t 2),some (181,true),[]⟩,
 ⟨some 183,.move (.t 24),some (181,true),[]⟩,
 ⟨some 184,.bin .lss (.t 182) (.t 183),some (181,true),[]⟩,
 ⟨some 185,.pick (.t 181) (.t 184) (.c (.d (.bool false))),none,[]⟩]
def qil:List VOper:=[
 ⟨some 186,.move (.t 0),none,[]⟩,
 ⟨some 187,.move (.t 20),none,[]⟩,
 ⟨some 188,.move (.t 2),none,[]⟩,
 ⟨some 189,.move (.t 24),none,[]⟩,
 ⟨some 190,.move (.t 4),none,[]⟩,
 ⟨some 191,.call false (.c (.fn 174 [])) [.t 186,.t 187,.t 188,.t 189,.t 190],none,[]⟩]
def qik:List VOper:=[
 ⟨some 192,.move (.t 1),none,[]⟩,
 ⟨some 193,.move (.t 20),none,[]⟩,
 ⟨some 194,.bin .lss (.t 192) (.t 193),none,[]⟩,
 ⟨some 195,.move (.t 194),none,[]⟩,
 ⟨some 196,.move (.t 20),some (195,true),[]⟩,
 ⟨some 197,.move (.t 18),some (195,true),[]⟩,
 ⟨some 198,.bin .lss (.t 196) (.t 197),some (195,true),[]⟩,
 ⟨some 199,.pick (.t 195) (.t 198) (.c (.d (.bool false))),none,[]⟩]
def qij:List VOper:=[
 ⟨some 200,.move (.t 0),none,[]⟩,
 ⟨some 201,.move (.t 1),none,[]⟩,
 ⟨some 202,.move (.t 20),none,[]⟩,
 ⟨some 203,.move (.t 18),none,[]⟩,
 ⟨some 204,.move (.t 4),none,[]⟩,
 ⟨some 205,.call false (.c (.fn 173 [])) [.t 200,.t 201,.t 202,.t 203,.t 204],none,[]⟩]
def qii:List VOper:=[
 ⟨some 206,.move (.t 18),none,[]⟩,
 ⟨some 207,.move (.t 24),none,[]⟩,
 ⟨some 208,.bin .lss (.t 206) (.t 207),none,[]⟩,
 ⟨some 209,.move (.t 208),none,[]⟩,
 ⟨some 210,.move (.t 24),some (209,true),[]⟩,
 ⟨some 211,.move (.t 3),some (209,true),[]⟩,
 ⟨some 212,.bin .lss (.t 210) (.t 211),some (209,true),[]⟩,
 ⟨some 213,.pick (.t 209) (.t 212) (.c (.d (.bool false))),none,[]⟩]
def qih:List VOper:=[
 ⟨some 214,.move (.t 0),none,[]⟩,
 ⟨some 215,.move (.t 18),none,[]⟩,
 ⟨some 216,.move (.t 24),none,[]⟩,
 ⟨some 217,.move (.t 3),none,[]⟩,
 ⟨some 218,.move (.t 4),none,[]⟩,
 ⟨some 219,.call false (.c (.fn 173 [])) [.t 214,.t 215,.t 216,.t 217,.t 218],none,[]⟩]
def qwe:VFn:=⟨5,[],(.seq (.seq (.region false 0 [0,1,2,3,4,28] qmd) (.cond (.t 28) (.seq (.region false 0 [0,1,3,4,10] qym) (.seq (.region false 0 [0,1,4,10,11] qyl) (.seq (.block 0 (.loop [0,1,4,10,11] qkq)) (.seq (.seq (.region false 0 [0,10,13] qyk) (.block 2 (.loop [0,10,13] qne))) .ret)))) .skip)) (.seq (.seq (.region false 0 [0,1,2,3,4,80] qk2) (.cond (.t 80) (.seq (.region false 0 [0,2,4,14] qtL) (.seq (.region false 0 [0,2,4,14,15] qtK) (.seq (.block 4 (.loop [0,2,4,14,15] qkp)) (.seq (.seq (.region false 0 [0,14,17] qtJ) (.block 6 (.loop [0,14,17] qnd))) .ret)))) .skip)) (.seq (.region false 0 [0,1,2,3,4,18] qn4) (.seq (.region false 0 [0,1,2,3,4,18,19] qn3) (.seq (.region false 0 [0,1,2,3,4,18,19] qn2) (.seq (.seq (.region false 0 [0,1,2,3,4,18,19,140] qn1) (.cond (.t 140) (.seq (.region false 0 [0,1,2,3,4,18,19,20] qtH) (.region false 0 [0,1,2,3,4,18,19,20,21] qtG)) (.seq (.region false 0 [0,1,2,3,4,18,19,20] qtF) (.region false 0 [0,1,2,3,4,18,19,20,21] qtE)))) (.seq (.region false 0 [0,1,2,3,4,18,19,20,21,22] qn0) (.seq (.block 8 (.loop [0,1,2,3,4,18,19,20,21,22] qgm)) (.seq (.region false 0 [0,1,2,3,4,18,20,24] qin) (.seq (.seq (.region false 0 [0,1,2,3,4,18,20,24,185] qim) (.cond (.t 185) (.region false 0 [0,1,3,4,18,20,24] qil) .skip)) (.seq (.seq (.region false 0 [0,1,3,4,18,20,24,199] qik) (.cond (.t 199) (.region false 0 [0,3,4,18,24] qij) .skip)) (.seq (.region false 0 [0,3,4,18,24,213] qii) (.cond (.t 213) (.region false 0 [] qih) .skip)))))))))))))⟩
def qo7:List VOper:=[
 ⟨some 12,.move (.t 2),none,[]⟩,
 ⟨some 13,.move (.t 1),none,[]⟩,
 ⟨some 14,.bin .sub (.t 12) (.t 13),none,[]⟩,
 ⟨some 10,.move (.t 14),none,[]⟩]
def qo6:List VOper:=[
 ⟨some 15,.move (.t 3),none,[]⟩,
 ⟨some 16,.move (.t 2),none,[]⟩,
 ⟨some 17,.bin .sub (.t 15) (.t 16),none,[]⟩,
 ⟨some 11,.move (.t 17),none,[]⟩]
def qo5:List VOper:=[
 ⟨some 18,.move (.t 10),none,[]⟩,
 ⟨some 19,.move (.t 11),none,[]⟩,
 ⟨some 20,.bin .neq (.t 18) (.t 19),none,[]⟩]
def qtz:List VOper:=[
 ⟨some 21,.move (.t 10),none,[]⟩,
 ⟨some 22,.move (.t 11),none,[]⟩,
 ⟨some 23,.bin .gtr (.t 21) (.t 22),none,[]⟩]
def qty:List VOper:=[
 ⟨some 24,.move (.t 0),none,[]⟩,
 ⟨some 25,.move (.t 2),none,[]⟩,
 ⟨some 26,.move (.t 10),none,[]⟩,
 ⟨some 27,.bin .sub (.t 25) (.t 26),none,[]⟩,
 ⟨some 28,.move (.t 2),none,[]⟩,
 ⟨some 29,.move (.t 11),none,[]⟩,
 ⟨some 30,.move (.t 4),none,[]⟩,
 ⟨some 31,.call false (.c (.fn 175 [])) [.t 24,.t 27,.t 28,.t 29,.t 30],none,[]⟩]
def qtx:List VOper:=[
 ⟨some 32,.move (.t 10),none,[]⟩,
 ⟨some 33,.move (.t 11),none,[]⟩,
 ⟨some 34,.bin .sub (.t 32) (.t 33),none,[]⟩,
 ⟨some 10,.move (.t 34),none,[]⟩]
def qtw:List VOper:=[
 ⟨some 35,.move (.t 0),none,[]⟩,
 ⟨some 36,.move (.t 2),none,[]⟩,
 ⟨some 37,.move (.t 10),none,[]⟩,
 ⟨some 38,.bin .sub (.t 36) (.t 37),none,[]⟩,
 ⟨some 39,.move (.t 2),none,[]⟩,
 ⟨some 40,.move (.t 11),none,[]⟩,
 ⟨some 41,.bin .add (.t 39) (.t 40),none,[]⟩,
 ⟨some 42,.move (.t 10),none,[]⟩,
 ⟨some 43,.bin .sub (.t 41) (.t 42),none,[]⟩,
 ⟨some 44,.move (.t 10),none,[]⟩,
 ⟨some 45,.move (.t 4),none,[]⟩,
 ⟨some 46,.call false (.c (.fn 175 [])) [.t 35,.t 38,.t 43,.t 44,.t 45],none,[]⟩]
def qtv:List VOper:=[
 ⟨some 47,.move (.t 11),none,[]⟩,
 ⟨some 48,.move (.t 10),none,[]⟩,
 ⟨some 49,.bin .sub (.t 47) (.t 48),none,[]⟩,
 ⟨some 11,.move (.t 49),none,[]⟩]
def qnc:VCode:=(.seq (.seq (.region false 0 [0,2,4,10,11,20] qo5) (.cond (.t 20) .skip (.exit 0))) (.block 1 (.seq (.region false 0 [0,2,4,10,11,23] qtz) (.cond (.t 23) (.seq (.region false 0 [0,2,4,10,11] qty) (.region false 0 [0,2,4,10,11] qtx)) (.seq (.region false 0 [0,2,4,10,11] qtw) (.region false 0 [0,2,4,10,11] qtv))))))
def qo4:List VOper:=[
 ⟨some 50,.move (.t 0),none,[]⟩,
 ⟨some 51,.move (.t 2),none,[]⟩,
 ⟨some 52,.move (.t 10),none,[]⟩,
 ⟨some 53,.bin .sub (.t 51) (.t 52),none,[]⟩,
 ⟨some 54,.move (.t 2),none,[]⟩,
 ⟨some 55,.move (.t 10),none,[]⟩,
 ⟨some 56,.move (.t 4),none,[]⟩,
 ⟨some 57,.call false (.c (.fn 175 [])) [.t 50,.t 53,.t 54,.t 55,.t 56],none,[]⟩]
def qBE:VFn:=⟨5,[],(.seq (.region false 0 [0,2,3,4,10] qo7) (.seq (.region false 0 [0,2,4,10,11] qo6) (.seq (.block 0 (.loop [0,2,4,10,11] qnc)) (.region false 0 [] qo4))))⟩
def qyj:List VOper:=[
 ⟨some 10,.move (.c (.d (.int .i64 0))),none,[]⟩]
def qtu:List VOper:=[
 ⟨some 11,.move (.t 10),none,[]⟩,
 ⟨some 12,.move (.t 3),none,[]⟩,
 ⟨some 13,.bin .lss (.t 11) (.t 12),none,[]⟩]
def qo3:List VOper:=[
 ⟨some 16,.move (.t 0),none,[]⟩,
 ⟨some 17,.move (.t 1),none,[]⟩,
 ⟨some 18,.move (.t 10),none,[]⟩,
 ⟨some 19,.bin .add (.t 17) (.t 18),none,[1,2]⟩,
 ⟨some 20,.move (.t 0),none,[]⟩,
 ⟨some 21,.move (.t 2),none,[]⟩,
 ⟨some 22,.move (.t 10),none,[]⟩,
 ⟨some 23,.bin .add (.t 21) (.t 22),none,[5,6]⟩,
 ⟨some 24,.move (.t 0),none,[]⟩,
 ⟨some 25,.move (.t 2),none,[]⟩,
 ⟨some 26,.move (.t 10),none,[]⟩,
 ⟨some 27,.bin .add (.t 25) (.t 26),none,[9,10]⟩,
 ⟨some 28,.indexAddr 3 none (.t 24) (.t 27),none,[8,11]⟩,
 ⟨some 29,.load true 3 (.t 28),none,[12]⟩,
 ⟨some 30,.move (.t 0),none,[]⟩,
 ⟨some 31,.move (.t 1),none,[]⟩,
 ⟨some 32,.move (.t 10),none,[]⟩,
 ⟨some 33,.bin .add (.t 31) (.t 32),none,[15,16]⟩,
 ⟨some 34,.indexAddr 3 none (.t 30) (.t 33),none,[14,17]⟩,
 ⟨some 35,.load true 3 (.t 34),none,[18]⟩,
 ⟨some 36,.indexAddr 3 none (.t 16) (.t 19),none,[0,1,2,3,8,9,10,11,12,13,19]⟩,
 ⟨none,.store false 3 (.t 36) (.t 29),none,[0,1,2,3,8,9,10,11,12,13,19,20]⟩,
 ⟨some 37,.indexAddr 3 none (.t 20) (.t 23),none,[0,1,2,3,4,5,6,7,8,9,10,11,12,13,14,15,16,17,18,19,20,21]⟩,
 ⟨none,.store false 3 (.t 37) (.t 35),none,[0,1,2,3,4,5,6,7,8,9,10,11,12,13,14,15,16,17,18,19,20,21,22]⟩]
def qyi:List VOper:=[
 ⟨some 14,.move (.t 10),none,[]⟩,
 ⟨some 15,.bin .add (.t 14) (.c (.d (.int .i64 1))),none,[]⟩,
 ⟨some 10,.move (.t 15),none,[]⟩]
def qp9:VCode:=(.seq (.seq (.region false 0 [0,1,2,3,10,13] qtu) (.cond (.t 13) .skip (.exit 0))) (.seq (.block 1 (.region true 0 [0,1,2,3,10] qo3)) (.region false 0 [0,1,2,3,10] qyi)))
def qBD:VFn:=⟨5,[],(.seq (.region false 0 [0,1,2,3,10] qyj) (.block 0 (.loop [0,1,2,3,10] qp9)))⟩
def qmc:List VOper:=[
 ⟨some 2,.move (.c (.d (.bool false))),none,[]⟩]
def qmb:List VOper:=[
 ⟨some 12,.move (.t 0),none,[]⟩,
 ⟨some 13,.call true (.c (.fn 133 [])) [.t 12],none,[]⟩]
def qma:List VOper:=[
 ⟨some 2,.move (.c (.d (.bool true))),none,[]⟩]
def ql9:List VOper:=[
 ⟨some 15,.move (.t 0),none,[]⟩,
 ⟨some 16,.call true (.c (.fn 190 [])) [.t 15],none,[]⟩,
 ⟨some 14,.move (.t 16),none,[]⟩,
 ⟨some 17,.extract (.t 14) 0,none,[]⟩,
 ⟨some 18,.extract (.t 14) 1,none,[]⟩,
 ⟨some 4,.alloc 0 [.int .i64 0,.int .i64 0,.sl .nil []],none,[]⟩,
 ⟨some 3,.move (.t 17),none,[]⟩,
 ⟨none,.store false 3 (.t 4) (.t 18),none,[]⟩]
def ql8:List VOper:=[
 ⟨some 19,.move (.t 3),none,[]⟩,
 ⟨some 20,.load true 3 (.t 4),none,[]⟩,
 ⟨some 21,.call true (.c (.fn 169 [])) [.t 19,.t 20],none,[]⟩,
 ⟨some 5,.alloc 0 [.int .i64 0,.int .i64 0,.sl .nil []],none,[]⟩,
 ⟨none,.store false 3 (.t 5) (.t 21),none,[]⟩]
def ql7:List VOper:=[
 ⟨some 23,.move (.t 0),none,[]⟩,
 ⟨some 24,.call true (.c (.fn 191 [])) [.t 23],none,[]⟩,
 ⟨some 22,.move (.t 24),none,[]⟩,
 ⟨some 25,.extract (.t 22) 0,none,[]⟩,
 ⟨some 26,.extract (.t 22) 1,none,[]⟩,
 ⟨some 27,.extract (.t 22) 2,none,[]⟩,
 ⟨some 6,.move (.t 25),none,[]⟩,
 ⟨some 7,.move (.t 26),none,[]⟩,
 ⟨some 8,.move (.t 27),none,[]⟩]
def ql6:List VOper:=[
 ⟨some 28,.move (.t 6),none,[]⟩,
 ⟨some 29,.move (.t 7),none,[]⟩,
 ⟨some 30,.move (.t 8),none,[]⟩,
 ⟨some 31,.call true (.c (.fn 192 [])) [.t 28,.t 29,.t 30],none,[]⟩,
 ⟨some 9,.alloc 0 [.int .i64 0,.int .i64 0,.sl .nil []],none,[]⟩,
 ⟨none,.store false 3 (.t 9) (.t 31),none,[]⟩]
def qtt:List VOper:=[
 ⟨some 32,.load true 3 (.t 5),none,[]⟩,
 ⟨some 33,.move (.t 3),none,[]⟩,
 ⟨some 34,.load true 3 (.t 4),none,[]⟩,
 ⟨some 35,.call true (.c (.fn 153 [])) [.t 33,.t 34],none,[1,2]⟩,
 ⟨some 36,.call true (.c (.fn 4 [])) [.t 32,.t 35],none,[0,3]⟩,
 ⟨some 37,.not (.t 36),none,[4]⟩,
 ⟨some 38,.move (.t 37),none,[4,5]⟩,
 ⟨some 39,.load true 3 (.t 9),some (38,false),[6]⟩,
 ⟨some 40,.move (.t 6),some (38,false),[6]⟩,
 ⟨some 41,.move (.t 7),some (38,false),[6]⟩,
 ⟨some 42,.move (.t 8),some (38,false),[6]⟩,
 ⟨some 43,.call true (.c (.fn 193 [])) [.t 40,.t 41,.t 42],some (38,false),[6,8,9,10]⟩,
 ⟨some 44,.call true (.c (.fn 4 [])) [.t 39,.t 43],some (38,false),[6,7,11]⟩,
 ⟨some 45,.not (.t 44),some (38,false),[6,12]⟩,
 ⟨some 46,.pick (.t 38) (.c (.d (.bool true))) (.t 45),none,[6,13]⟩,
 ⟨some 47,.move (.t 46),none,[12,14]⟩,
 ⟨some 48,.move (.t 3),some (47,false),[15]⟩,
 ⟨some 49,.load true 3 (.t 5),some (47,false),[15]⟩,
 ⟨some 50,.call true (.c (.fn 169 [])) [.t 48,.t 49],some (47,false),[15,16,17]⟩,
 ⟨some 51,.load true 3 (.t 5),some (47,false),[15]⟩,
 ⟨some 52,.call true (.c (.fn 4 [])) [.t 50,.t 51],some (47,false),[15,18,19]⟩,
 ⟨some 53,.not (.t 52),some (47,false),[15,20]⟩,
 ⟨some 54,.pick (.t 47) (.c (.d (.bool true))) (.t 53),none,[15,21]⟩]
def ql5:List VOper:=[
 ⟨some 2,.move (.c (.d (.bool false))),none,[]⟩]
def ql4:List VOper:=[
 ⟨some 55,.move (.t 8),none,[]⟩,
 ⟨some 56,.len false (.t 55),none,[]⟩,
 ⟨some 57,.bin .lss (.t 56) (.c (.d (.int .i64 3))),none,[]⟩,
 ⟨some 58,.move (.t 57),none,[]⟩,
 ⟨some 59,.move (.t 6),some (58,false),[]⟩,
 ⟨some 60,.move (.t 7),some (58,false),[]⟩,
 ⟨some 61,.call true (.c (.fn 34 [])) [.t 59,.t 60],some (58,false),[]⟩,
 ⟨some 62,.not (.t 61),some (58,false),[]⟩,
 ⟨some 63,.pick (.t 58) (.c (.d (.bool true))) (.t 62),none,[]⟩]
def qig:List VOper:=[
 ⟨some 2,.move (.c (.d (.bool true))),none,[]⟩]
def qnW:List VOper:=[
 ⟨some 64,.move (.t 8),none,[]⟩,
 ⟨some 65,.indexAddr 3 none (.t 64) (.c (.d (.int .i64 2))),none,[0]⟩,
 ⟨some 66,.load true 3 (.t 65),none,[1]⟩,
 ⟨some 67,.move (.t 8),none,[]⟩,
 ⟨some 68,.indexAddr 3 none (.t 67) (.c (.d (.int .i64 0))),none,[3]⟩,
 ⟨some 69,.load true 3 (.t 68),none,[4]⟩,
 ⟨some 70,.move (.t 8),none,[]⟩,
 ⟨some 71,.indexAddr 3 none (.t 70) (.c (.d (.int .i64 1))),none,[6]⟩,
 ⟨some 72,.load true 3 (.t 71),none,[7]⟩,
 ⟨some 73,.buildSlice 3 (.agg [.int .i64 0,.int .i64 0,.sl .nil []]) 3 [(0,.t 66),(1,.t 69),(2,.t 72)],none,[2,5,8]⟩,
 ⟨some 10,.move (.t 73),none,[0,1,2,3,4,5,6,7,8,9]⟩]
def qif:List VOper:=[
 ⟨some 74,.move (.t 6),none,[]⟩,
 ⟨some 75,.move (.t 7),none,[]⟩,
 ⟨some 76,.move (.t 8),none,[]⟩,
 ⟨some 77,.slice false 3 (.t 76) none (some (.c (.d (.int .i64 2)))),none,[]⟩,
 ⟨some 78,.call true (.c (.fn 192 [])) [.t 74,.t 75,.t 77],none,[]⟩,
 ⟨some 11,.alloc 0 [.int .i64 0,.int .i64 0,.sl .nil []],none,[]⟩,
 ⟨none,.store false 3 (.t 11) (.t 78),none,[]⟩]
def qnV:List VOper:=[
 ⟨some 79,.load true 3 (.t 9),none,[]⟩,
 ⟨some 80,.move (.t 6),none,[]⟩,
 ⟨some 81,.move (.t 7),none,[]⟩,
 ⟨some 82,.move (.t 10),none,[]⟩,
 ⟨some 83,.move (.t 8),none,[]⟩,
 ⟨some 84,.slice false 3 (.t 83) (some (.c (.d (.int .i64 3)))) none,none,[4]⟩,
 ⟨some 85,.append 3 40 (.t 82) (.t 84),none,[3,5]⟩,
 ⟨some 86,.call true (.c (.fn 192 [])) [.t 80,.t 81,.t 85],none,[1,2,6]⟩,
 ⟨some 87,.call true (.c (.fn 4 [])) [.t 79,.t 86],none,[0,7]⟩,
 ⟨some 88,.move (.t 87),none,[8]⟩,
 ⟨some 89,.load true 3 (.t 9),some (88,true),[9]⟩,
 ⟨some 90,.move (.t 6),some (88,true),[9]⟩,
 ⟨some 91,.move (.t 7),some (88,true),[9]⟩,
 ⟨some 92,.load true 3 (.t 11),some (88,true),[9]⟩,
 ⟨some 93,.buildSlice 3 (.agg [.int .i64 0,.int .i64 0,.sl .nil []]) 1 [(0,.t 92)],some (88,true),[9,13]⟩,
 ⟨some 94,.move (.t 8),some (88,true),[9]⟩,
 ⟨some 95,.slice false 3 (.t 94) (some (.c (.d (.int .i64 2)))) none,some (88,true),[9,15]⟩,
 ⟨some 96,.append 3 40 (.t 93) (.t 95),some (88,true),[9,14,16]⟩,
 ⟨some 97,.call true (.c (.fn 192 [])) [.t 90,.t 91,.t 96],some (88,true),[9,11,12,17]⟩,
 ⟨some 98,.call true (.c (.fn 4 [])) [.t 89,.t 97],some (88,true),[9,10,18]⟩,
 ⟨some 99,.pick (.t 88) (.t 98) (.c (.d (.bool false))),none,[9,19]⟩,
 ⟨some 2,.move (.t 99),none,[0,1,2,3,4,5,6,7,8,9,10,11,12,13,14,15,16,17,18,19,20]⟩]
def qwF:VFn:=⟨1,[.tmp 2],(.seq (.region false 0 [0] qmc) (.seq (.seq (.region false 0 [0,13] qmb) (.cond (.t 13) (.seq (.region false 0 [2] qma) .ret) .skip)) (.seq (.region false 1 [0,3,4] ql9) (.seq (.region false 1 [0,3,4,5] ql8) (.seq (.region false 0 [3,4,5,6,7,8] ql7) (.seq (.region false 1 [3,4,5,6,7,8,9] ql6) (.seq (.seq (.region true 0 [6,7,8,9,54] qtt) (.cond (.t 54) (.seq (.region false 0 [2] ql5) .ret) .skip)) (.seq (.seq (.region false 0 [6,7,8,9,63] ql4) (.cond (.t 63) (.seq (.region false 0 [2] qig) .ret) .skip)) (.seq (.region true 0 [6,7,8,9,10] qnW) (.seq (.region false 1 [6,7,8,9,10,11] qif) (.seq (.region true 0 [2] qnV) .ret)))))))))))⟩
def qts:List VOper:=[
 ⟨some 2,.move (.c (.d (.sl .nil []))),none,[]⟩,
 ⟨some 3,.alloc 0 [.int .i64 0,.int .i64 0,.sl .nil []],none,[]⟩]
def qtr:List VOper:=[
 ⟨some 7,.move (.t 0),none,[]⟩,
 ⟨some 8,.call false (.c (.fn 156 [])) [.t 7],none,[]⟩,
 ⟨some 4,.move (.t 8),none,[]⟩]
def qtq:List VOper:=[
 ⟨some 9,.move (.t 4),none,[]⟩,
 ⟨some 10,.call false (.c (.fn 162 [])) [.t 9,.c (.d (.int .i64 2))],none,[]⟩]
def qtp:List VOper:=[
 ⟨some 11,.call true (.c (.fn 155 [])) [],none,[]⟩,
 ⟨some 12,.move (.t 4),none,[]⟩,
 ⟨some 13,.call false (.c (.fn 166 [])) [.t 12,.c (.d (.int .i64 3)),.c (.d (.int .i64 2))],none,[]⟩,
 ⟨some 2,.move (.t 11),none,[]⟩,
 ⟨none,.store false 3 (.t 3) (.t 13),none,[]⟩]
def qto:List VOper:=[
 ⟨some 15,.move (.t 0),none,[]⟩,
 ⟨some 16,.call true (.c (.fn 194 [])) [.t 15],none,[]⟩,
 ⟨some 14,.move (.t 16),none,[]⟩,
 ⟨some 17,.extract (.t 14) 0,none,[]⟩,
 ⟨some 18,.extract (.t 14) 1,none,[]⟩,
 ⟨some 6,.alloc 0 [.int .i64 0,.int .i64 0,.sl .nil []],none,[]⟩,
 ⟨some 5,.move (.t 17),none,[]⟩,
 ⟨none,.store false 3 (.t 6) (.t 18),none,[]⟩]
def qtn:List VOper:=[
 ⟨some 19,.move (.t 5),none,[]⟩,
 ⟨some 20,.load true 3 (.t 6),none,[]⟩,
 ⟨some 2,.move (.t 19),none,[0]⟩,
 ⟨none,.store false 3 (.t 3) (.t 20),none,[0,1,2]⟩]
def qx8:VFn:=⟨1,[.tmp 2,.cell 3 true 3],(.seq (.region false 1 [0,3] qts) (.seq (.region false 0 [0,3,4] qtr) (.seq (.seq (.region false 0 [0,3,4,10] qtq) (.cond (.t 10) (.seq (.region false 0 [2,3] qtp) .ret) .skip)) (.seq (.region false 1 [3,5,6] qto) (.seq (.region true 0 [2,3] qtn) .ret)))))⟩
def qtm:List VOper:=[
 ⟨some 2,.move (.c (.d (.sl .nil []))),none,[]⟩,
 ⟨some 3,.move (.c (.d (.int .i64 0))),none,[]⟩,
 ⟨some 4,.move (.c (.d (.sl .nil []))),none,[]⟩]
def qtl:List VOper:=[
 ⟨some 8,.move (.t 0),none,[]⟩,
 ⟨some 9,.call false (.c (.fn 156 [])) [.t 8],none,[]⟩,
 ⟨some 5,.move (.t 9),none,[]⟩]
def qtk:List VOper:=[
 ⟨some 10,.buildSlice 3 (.agg [.int .i64 0,.int .i64 0,.sl .nil []]) 0 [],none,[]⟩,
 ⟨some 6,.move (.t 10),none,[]⟩]
def qtj:List VOper:=[
 ⟨some 7,.move (.c (.d (.int .i64 0))),none,[]⟩]
def qo2:List VOper:=[
 ⟨some 11,.move (.t 7),none,[]⟩,
 ⟨some 12,.move (.t 5),none,[]⟩,
 ⟨some 13,.call false (.c (.fn 159 [])) [.t 12,.c (.d (.int .i64 4))],none,[]⟩,
 ⟨some 14,.bin .lss (.t 11) (.t 13),none,[]⟩]
def qyg:List VOper:=[
 ⟨some 17,.move (.t 6),none,[]⟩,
 ⟨some 18,.move (.t 5),none,[]⟩,
 ⟨some 19,.call false (.c (.fn 166 [])) [.t 18,.c (.d (.int .i64 2)),.c (.d (.int .i64 2))],none,[]⟩,
 ⟨some 20,.buildSlice 3 (.agg [.int .i64 0,.int .i64 0,.sl .nil []]) 1 [(0,.t 19)],none,[]⟩,
 ⟨some 21,.append 3 40 (.t 17) (.t 20),none,[]⟩,
 ⟨some 6,.move (.t 21),none,[]⟩]
def qyh:List VOper:=[
 ⟨some 15,.move (.t 7),none,[]⟩,
 ⟨some 16,.bin .add (.t 15) (.c (.d (.int .i64 1))),none,[]⟩,
 ⟨some 7,.move (.t 16),none,[]⟩]
def qko:VCode:=(.seq (.seq (.region false 0 [5,6,7,14] qo2) (.cond (.t 14) .skip (.exit 0))) (.seq (.block 1 (.region false 0 [5,6,7] qyg)) (.region false 0 [5,6,7] qyh)))
def qti:List VOper:=[
 ⟨some 22,.call true (.c (.fn 155 [])) [],none,[]⟩,
 ⟨some 23,.move (.t 5),none,[]⟩,
 ⟨some 24,.buildSlice 1 (.int .i64 0) 8 [(0,.c (.d (.int .i64 5))),(1,.c (.d (.int .i64 5))),(2,.c (.d (.int .i64 6))),(3,.c (.d (.int .i64 4))),(4,.c (.d (.int .i64 3))),(5,.c (.d (.int .i64 1))),(6,.c (.d (.int .i64 (-1)))),(7,.c (.d (.int .i64 9)))],none,[]⟩,
 ⟨some 25,.call false (.c (.fn 160 [])) [.t 23,.t 24],none,[]⟩,
 ⟨some 26,.move (.t 6),none,[]⟩,
 ⟨some 2,.move (.t 22),none,[]⟩,
 ⟨some 3,.move (.t 25),none,[]⟩,
 ⟨some 4,.move (.t 26),none,[]⟩]
def qBC:VFn:=⟨1,[.tmp 2,.tmp 3,.tmp 4],(.seq (.region false 0 [0] qtm) (.seq (.region false 0 [5] qtl) (.seq (.region false 0 [5,6] qtk) (.seq (.seq (.region false 0 [5,6,7] qtj) (.block 0 (.loop [5,6,7] qko))) (.seq (.region false 0 [2,3,4] qti) .ret)))))⟩
def qj4:List VOper:=[
 ⟨some 6,.alloc 0 [.int .i64 0,.int .i64 0,.sl .nil []],none,[]⟩]
def qj3:List VOper:=[
 ⟨some 8,.move (.t 0),none,[]⟩,
 ⟨some 9,.move (.t 1),none,[]⟩,
 ⟨some 10,.call true (.c (.fn 29 [])) [.t 8,.t 9],none,[]⟩,
 ⟨some 11,.not (.t 10),none,[]⟩,
 ⟨some 7,.move (.t 11),none,[]⟩]
def qj2:List VOper:=[
 ⟨some 12,.move (.t 1),none,[]⟩,
 ⟨some 13,.move (.t 2),none,[]⟩,
 ⟨some 14,.call true (.c (.fn 151 [])) [.t 13],none,[]⟩,
 ⟨some 15,.build [.int .i64 0,.int .i64 0,.sl .nil []] [(0,1,.t 12),(2,1,.t 14)],none,[]⟩,
 ⟨none,.store false 3 (.t 6) (.t 15),none,[]⟩]
def qj1:List VOper:=[
 ⟨some 17,.move (.t 0),none,[]⟩,
 ⟨some 18,.move (.t 1),none,[]⟩,
 ⟨some 19,.indexAddr 3 none (.t 17) (.t 18),none,[]⟩,
 ⟨some 20,.fieldAddr 2 (.t 19),none,[]⟩,
 ⟨some 21,.load false 1 (.t 20),none,[]⟩,
 ⟨some 22,.move (.t 21),none,[]⟩,
 ⟨some 23,.move (.t 2),some (22,true),[]⟩,
 ⟨some 24,.len false (.t 23),some (22,true),[]⟩,
 ⟨some 25,.bin .eql (.t 24) (.c (.d (.int .i64 0))),some (22,true),[]⟩,
 ⟨some 26,.pick (.t 22) (.t 25) (.c (.d (.bool false))),none,[]⟩,
 ⟨some 16,.move (.t 26),none,[]⟩]
def qj0:List VOper:=[
 ⟨some 27,.build [.int .i64 0,.int .i64 0,.sl .nil []] [],none,[]⟩,
 ⟨none,.store false 3 (.t 6) (.t 27),none,[]⟩]
def qjZ:List VOper:=[
 ⟨some 29,.move (.t 0),none,[]⟩,
 ⟨some 30,.move (.t 1),none,[]⟩,
 ⟨some 31,.indexAddr 3 none (.t 29) (.t 30),none,[]⟩,
 ⟨some 32,.fieldAddr 2 (.t 31),none,[]⟩,
 ⟨some 33,.load false 1 (.t 32),none,[]⟩,
 ⟨some 34,.move (.t 33),none,[]⟩,
 ⟨some 35,.move (.t 2),some (34,true),[]⟩,
 ⟨some 36,.len false (.t 35),some (34,true),[]⟩,
 ⟨some 37,.bin .eql (.t 36) (.c (.d (.int .i64 1))),some (34,true),[]⟩,
 ⟨some 38,.pick (.t 34) (.t 37) (.c (.d (.bool false))),none,[]⟩,
 ⟨some 28,.move (.t 38),none,[]⟩]
def qjY:List VOper:=[
 ⟨some 39,.move (.t 0),none,[]⟩,
 ⟨some 40,.move (.t 2),none,[]⟩,
 ⟨some 41,.indexAddr 3 none (.t 40) (.c (.d (.int .i64 0))),none,[]⟩,
 ⟨some 42,.load true 3 (.t 41),none,[]⟩,
 ⟨some 43,.call true (.c (.fn 169 [])) [.t 39,.t 42],none,[]⟩,
 ⟨none,.store false 3 (.t 6) (.t 43),none,[]⟩]
def qjX:List VOper:=[
 ⟨some 44,.move (.t 0),none,[]⟩,
 ⟨some 45,.move (.t 1),none,[]⟩,
 ⟨some 46,.move (.t 2),none,[]⟩,
 ⟨some 47,.build [.int .i64 0,.int .i64 0,.sl .nil []] [(0,1,.t 45),(2,1,.t 46)],none,[]⟩,
 ⟨some 48,.call true (.c (.fn 169 [])) [.t 44,.t 47],none,[]⟩,
 ⟨none,.store false 3 (.t 6) (.t 48),none,[]⟩]
def qwd:VFn:=⟨3,[.cell 6 true 3],(.seq (.region false 1 [0,1,2,6] qj4) (.seq (.block 0 (.seq (.region false 0 [0,1,2,6,7] qj3) (.cond (.t 7) (.seq (.region false 0 [6] qj2) .ret) (.seq (.region false 0 [0,1,2,6,16] qj1) (.cond (.t 16) (.seq (.region false 0 [6] qj0) .ret) (.seq (.region false 0 [0,1,2,6,28] qjZ) (.cond (.t 28) (.seq (.region false 0 [6] qjY) .ret) .skip))))))) (.seq (.region false 0 [6] qjX) .ret)))⟩
def qjW:List VOper:=[
 ⟨some 6,.alloc 0 [.int .i64 0,.int .i64 0,.sl .nil []],none,[]⟩]
def qjV:List VOper:=[
 ⟨some 7,.move (.t 0),none,[]⟩,
 ⟨some 8,.move (.t 1),none,[]⟩,
 ⟨some 9,.call true (.c (.fn 33 [])) [.t 7,.t 8],none,[]⟩,
 ⟨some 10,.move (.t 9),none,[]⟩,
 ⟨some 11,.move (.t 2),some (10,true),[]⟩,
 ⟨some 12,.len false (.t 11),some (10,true),[]⟩,
 ⟨some 13,.bin .eql (.t 12) (.c (.d (.int .i64 0))),some (10,true),[]⟩,
 ⟨some 14,.pick (.t 10) (.t 13) (.c (.d (.bool false))),none,[]⟩]
def qjU:List VOper:=[
 ⟨some 15,.build [.int .i64 0,.int .i64 0,.sl .nil []] [],none,[]⟩,
 ⟨none,.store false 3 (.t 6) (.t 15),none,[]⟩]
def qjT:List VOper:=[
 ⟨some 16,.move (.t 0),none,[]⟩,
 ⟨some 17,.move (.t 1),none,[]⟩,
 ⟨some 18,.call true (.c (.fn 33 [])) [.t 16,.t 17],none,[]⟩,
 ⟨some 19,.move (.t 18),none,[]⟩,
 ⟨some 20,.move (.t 2),some (19,true),[]⟩,
 ⟨some 21,.len false (.t 20),some (19,true),[]⟩,
 ⟨some 22,.bin .eql (.t 21) (.c (.d (.int .i64 1))),some (19,true),[]⟩,
 ⟨some 23,.pick (.t 19) (.t 22) (.c (.d (.bool false))),none,[]⟩]
def qjS:List VOper:=[
 ⟨some 24,.move (.t 0),none,[]⟩,
 ⟨some 25,.move (.t 2),none,[]⟩,
 ⟨some 26,.indexAddr 3 none (.t 25) (.c (.d (.int .i64 0))),none,[]⟩,
 ⟨some 27,.load true 3 (.t 26),none,[]⟩,
 ⟨some 28,.call true (.c (.fn 153 [])) [.t 24,.t 27],none,[]⟩,
 ⟨none,.store false 3 (.t 6) (.t 28),none,[]⟩]
def qjR:List VOper:=[
 ⟨some 29,.move (.t 1),none,[]⟩,
 ⟨some 30,.move (.t 0),none,[]⟩,
 ⟨some 31,.len false (.t 30),none,[]⟩,
 ⟨some 32,.bin .sub (.t 31) (.c (.d (.int .i64 1))),none,[]⟩,
 ⟨some 33,.call true (.c (.fn 31 [])) [.t 29,.c (.d (.int .i64 0)),.t 32],none,[]⟩,
 ⟨some 34,.not (.t 33),none,[]⟩]
def qjQ:List VOper:=[
 ⟨some 35,.move (.t 1),none,[]⟩,
 ⟨some 36,.move (.t 2),none,[]⟩,
 ⟨some 37,.call true (.c (.fn 197 [])) [.t 36],none,[]⟩,
 ⟨some 38,.call true (.c (.fn 164 [])) [.t 35,.t 37],none,[]⟩,
 ⟨none,.store false 3 (.t 6) (.t 38),none,[]⟩]
def qjP:List VOper:=[
 ⟨some 39,.move (.t 0),none,[]⟩,
 ⟨some 40,.move (.t 1),none,[]⟩,
 ⟨some 41,.move (.t 2),none,[]⟩,
 ⟨some 42,.call true (.c (.fn 164 [])) [.t 40,.t 41],none,[]⟩,
 ⟨some 43,.call true (.c (.fn 153 [])) [.t 39,.t 42],none,[]⟩,
 ⟨none,.store false 3 (.t 6) (.t 43),none,[]⟩]
def qwc:VFn:=⟨3,[.cell 6 true 3],(.seq (.region false 1 [0,1,2,6] qjW) (.seq (.seq (.region false 0 [0,1,2,6,14] qjV) (.cond (.t 14) (.seq (.region false 0 [6] qjU) .ret) .skip)) (.seq (.seq (.region false 0 [0,1,2,6,23] qjT) (.cond (.t 23) (.seq (.region false 0 [6] qjS) .ret) .skip)) (.seq (.seq (.region false 0 [0,1,2,6,34] qjR) (.cond (.t 34) (.seq (.region false 0 [6] qjQ) .ret) .skip)) (.seq (.region false 0 [6] qjP) .ret)))))⟩
def qth:List VOper:=[
 ⟨some 2,.move (.c (.d (.sl .nil []))),none,[]⟩,
 ⟨some 3,.alloc 0 [.int .i64 0,.int .i64 0,.sl .nil []],none,[]⟩]
def qtg:List VOper:=[
 ⟨some 6,.move (.t 0),none,[]⟩,
 ⟨some 7,.call false (.c (.fn 156 [])) [.t 6],none,[]⟩,
 ⟨some 4,.move (.t 7),none,[]⟩]
def qtf:List VOper:=[
 ⟨some 8,.move (.t 4),none,[]⟩,
 ⟨some 9,.callS 8 (.c (.fn 161 [])) [.t 8],none,[]⟩,
 ⟨some 5,.alloc 0 [.int .i64 0,.int .i64 0,.sl .nil []],none,[]⟩,
 ⟨none,.store false 3 (.t 5) (.t 9),none,[]⟩]
def qte:List VOper:=[
 ⟨some 10,.move (.t 4),none,[]⟩,
 ⟨some 11,.call false (.c (.fn 162 [])) [.t 10,.c (.d (.int .i64 8))],none,[]⟩]
def qtd:List VOper:=[
 ⟨some 12,.move (.t 4),none,[]⟩,
 ⟨some 13,.callS 4 (.c (.fn 195 [])) [.t 12],none,[0]⟩,
 ⟨some 14,.loadS true 3 (.t 5) 4,none,[]⟩,
 ⟨some 2,.move (.t 13),none,[0,1]⟩,
 ⟨none,.store false 3 (.t 3) (.t 14),none,[0,1,2,3]⟩]
def qtc:List VOper:=[
 ⟨some 15,.call true (.c (.fn 155 [])) [],none,[]⟩,
 ⟨some 16,.load true 3 (.t 5),none,[]⟩,
 ⟨some 2,.move (.t 15),none,[0]⟩,
 ⟨none,.store false 3 (.t 3) (.t 16),none,[0,1,2]⟩]
def qx7:VFn:=⟨1,[.tmp 2,.cell 3 true 3],(.seq (.region false 1 [0,3] qth) (.seq (.region false 0 [3,4] qtg) (.seq (.region false 1 [3,4,5] qtf) (.seq (.seq (.region false 0 [3,4,5,11] qte) (.cond (.t 11) (.seq (.region true 0 [2,3] qtd) .ret) .skip)) (.seq (.region true 0 [2,3] qtc) .ret)))))⟩
def qhb:List VOper:=[
 ⟨some 2,.move (.c (.d (.sl .nil []))),none,[]⟩]
def qha:List VOper:=[
 ⟨some 4,.call true (.c (.fn 155 [])) [],none,[]⟩,
 ⟨some 3,.move (.t 4),none,[]⟩]
def qg9:List VOper:=[
 ⟨some 5,.move (.t 0),none,[]⟩,
 ⟨some 6,.call false (.c (.fn 159 [])) [.t 5,.c (.d (.int .i64 10))],none,[]⟩]
def qg8:List VOper:=[
 ⟨some 8,.bin .eql (.t 6) (.c (.d (.int .i64 0))),none,[]⟩,
 ⟨some 7,.move (.t 8),none,[]⟩]
def qg7:List VOper:=[
 ⟨some 9,.move (.t 3),none,[]⟩,
 ⟨some 10,.move (.t 0),none,[]⟩,
 ⟨some 11,.buildSlice 1 (.str ⟨#[]⟩) 6 [(0,.c (.d (.str ⟨#[]⟩))),(1,.c (.d (.str ⟨#[65]⟩))),(2,.c (.d (.str ⟨#[116,116]⟩))),(3,.c (.d (.str ⟨#[97,98,99,100,101,102,103,104,105]⟩))),(4,.c (.d (.str ⟨#[49,97]⟩))),(5,.c (.d (.str ⟨#[97,49]⟩)))],none,[]⟩,
 ⟨some 12,.call false (.c (.fn 196 [])) [.t 10,.t 11],none,[]⟩,
 ⟨some 13,.indexAddr 3 none (.t 9) (.c (.d (.int .i64 1))),none,[]⟩,
 ⟨some 14,.fieldAddr 0 (.t 13),none,[]⟩,
 ⟨none,.store false 1 (.t 14) (.t 12),none,[]⟩]
def qg6:List VOper:=[
 ⟨some 16,.bin .eql (.t 6) (.c (.d (.int .i64 1))),none,[]⟩,
 ⟨some 15,.move (.t 16),none,[]⟩]
def qg5:List VOper:=[
 ⟨some 17,.move (.t 3),none,[]⟩,
 ⟨some 18,.move (.t 0),none,[]⟩,
 ⟨some 19,.buildSlice 1 (.int .i64 0) 3 [(0,.c (.d (.int .i64 (-1)))),(1,.c (.d (.int .i64 3))),(2,.c (.d (.int .i64 4)))],none,[]⟩,
 ⟨some 20,.call false (.c (.fn 160 [])) [.t 18,.t 19],none,[]⟩,
 ⟨some 21,.indexAddr 3 none (.t 17) (.c (.d (.int .i64 2))),none,[]⟩,
 ⟨some 22,.fieldAddr 1 (.t 21),none,[]⟩,
 ⟨none,.store false 1 (.t 22) (.t 20),none,[]⟩]
def qg4:List VOper:=[
 ⟨some 24,.bin .eql (.t 6) (.c (.d (.int .i64 2))),none,[]⟩,
 ⟨some 23,.move (.t 24),none,[]⟩]
def qg3:List VOper:=[
 ⟨some 25,.move (.t 3),none,[]⟩,
 ⟨some 26,.indexAddr 3 none (.t 25) (.c (.d (.int .i64 3))),none,[]⟩,
 ⟨some 27,.fieldAddr 2 (.t 26),none,[]⟩,
 ⟨none,.store false 1 (.t 27) (.c (.d (.bool true))),none,[]⟩]
def qg2:List VOper:=[
 ⟨some 29,.bin .eql (.t 6) (.c (.d (.int .i64 3))),none,[]⟩,
 ⟨some 28,.move (.t 29),none,[]⟩]
def qeF:List VOper:=[
 ⟨some 30,.move (.t 3),none,[]⟩,
 ⟨some 31,.slice false 3 (.t 30) (some (.c (.d (.int .i64 1)))) none,none,[]⟩,
 ⟨some 2,.move (.t 31),none,[]⟩]
def qeE:List VOper:=[
 ⟨some 33,.bin .eql (.t 6) (.c (.d (.int .i64 4))),none,[]⟩,
 ⟨some 32,.move (.t 33),none,[]⟩]
def qeD:List VOper:=[
 ⟨some 34,.move (.t 3),none,[]⟩,
 ⟨some 35,.move (.t 0),none,[]⟩,
 ⟨some 36,.call false (.c (.fn 159 [])) [.t 35,.c (.d (.int .i64 4))],none,[]⟩,
 ⟨some 37,.slice false 3 (.t 34) none (some (.t 36)),none,[]⟩,
 ⟨some 2,.move (.t 37),none,[]⟩]
def qeC:List VOper:=[
 ⟨some 39,.bin .eql (.t 6) (.c (.d (.int .i64 5))),none,[]⟩,
 ⟨some 38,.move (.t 39),none,[]⟩]
def qeB:List VOper:=[
 ⟨some 40,.move (.t 3),none,[]⟩,
 ⟨some 41,.build [.str ⟨#[]⟩,.int .i64 0,.bool false] [(0,1,.c (.d (.str ⟨#[120,49]⟩)))],none,[]⟩,
 ⟨some 42,.move (.t 0),none,[]⟩,
 ⟨some 43,.buildSlice 1 (.str ⟨#[]⟩) 2 [(0,.c (.d (.str ⟨#[120,50]⟩))),(1,.c (.d (.str ⟨#[120,49]⟩)))],none,[]⟩,
 ⟨some 44,.call false (.c (.fn 196 [])) [.t 42,.t 43],none,[]⟩,
 ⟨some 45,.build [.str ⟨#[]⟩,.int .i64 0,.bool false] [(0,1,.t 44)],none,[]⟩,
 ⟨some 46,.buildSlice 3 (.agg [.str ⟨#[]⟩,.int .i64 0,.bool false]) 2 [(0,.t 41),(1,.t 45)],none,[]⟩,
 ⟨some 47,.append 3 32 (.t 40) (.t 46),none,[]⟩,
 ⟨some 2,.move (.t 47),none,[]⟩]
def qeA:List VOper:=[
 ⟨some 48,.move (.t 3),none,[]⟩,
 ⟨some 2,.move (.t 48),none,[]⟩]
def qrI:VFn:=⟨1,[.tmp 2],(.seq (.region false 0 [0] qhb) (.seq (.region false 0 [0,3] qha) (.seq (.seq (.region false 0 [0,3,6] qg9) (.block 0 (.seq (.region false 0 [0,3,6,7] qg8) (.cond (.t 7) (.ghost (.focR 3 [0]) (.region false 0 [3] qg7)) (.seq (.region false 0 [0,3,6,15] qg6) (.cond (.t 15) (.ghost (.focR 3 [0]) (.region false 0 [3] qg5)) (.seq (.region false 0 [0,3,6,23] qg4) (.cond (.t 23) (.ghost (.focR 3 [0]) (.region false 0 [3] qg3)) (.seq (.region false 0 [0,3,6,28] qg2) (.cond (.t 28) (.seq (.region false 0 [2] qeF) .ret) (.seq (.region false 0 [0,3,6,32] qeE) (.cond (.t 32) (.seq (.region false 0 [2] qeD) .ret) (.seq (.region false 0 [0,3,38] qeC) (.cond (.t 38) (.seq (.region false 0 [2] qeB) .ret) .skip)))))))))))))) (.seq (.ghost (.frzR 3 1 []) (.region false 0 [2] qeA)) .ret))))⟩
def qyf:List VOper:=[
 ⟨some 4,.move (.c (.d (.str ⟨#[]⟩))),none,[]⟩]
def qye:List VOper:=[
 ⟨some 5,.move (.t 1),none,[]⟩,
 ⟨some 6,.move (.t 0),none,[]⟩,
 ⟨some 7,.move (.t 1),none,[]⟩,
 ⟨some 8,.len false (.t 7),none,[]⟩,
 ⟨some 9,.call false (.c (.fn 159 [])) [.t 6,.t 8],none,[]⟩,
 ⟨some 10,.indexAddr 1 none (.t 5) (.t 9),none,[]⟩,
 ⟨some 11,.load false 1 (.t 10),none,[]⟩,
 ⟨some 4,.move (.t 11),none,[]⟩]
def qBB:VFn:=⟨2,[.tmp 4],(.seq (.region false 0 [0,1] qyf) (.seq (.region false 0 [4] qye) .ret))⟩
def qo1:List VOper:=[
 ⟨some 2,.move (.c (.d (.sl .nil []))),none,[]⟩]
def qo0:List VOper:=[
 ⟨some 5,.buildSlice 3 (.agg [.int .i64 0,.int .i64 0,.sl .nil []]) 0 [],none,[]⟩,
 ⟨some 3,.move (.t 5),none,[]⟩]
def qoZ:List VOper:=[
 ⟨some 4,.move (.c (.d (.int .i64 0))),none,[]⟩]
def qtb:List VOper:=[
 ⟨some 6,.move (.t 4),none,[]⟩,
 ⟨some 7,.move (.t 0),none,[]⟩,
 ⟨some 8,.len false (.t 7),none,[]⟩,
 ⟨some 9,.bin .lss (.t 6) (.t 8),none,[]⟩]
def qs9:List VOper:=[
 ⟨some 12,.move (.t 3),none,[]⟩,
 ⟨some 13,.move (.t 0),none,[]⟩,
 ⟨some 14,.move (.t 4),none,[]⟩,
 ⟨some 15,.indexAddr 3 none (.t 13) (.t 14),none,[]⟩,
 ⟨some 16,.load true 3 (.t 15),none,[]⟩,
 ⟨some 17,.call true (.c (.fn 146 [])) [.t 16],none,[]⟩,
 ⟨some 18,.buildSlice 3 (.agg [.int .i64 0,.int .i64 0,.sl .nil []]) 1 [(0,.t 17)],none,[]⟩,
 ⟨some 19,.append 3 40 (.t 12) (.t 18),none,[]⟩,
 ⟨some 3,.move (.t 19),none,[]⟩]
def qta:List VOper:=[
 ⟨some 10,.move (.t 4),none,[]⟩,
 ⟨some 11,.bin .add (.t 10) (.c (.d (.int .i64 1))),none,[]⟩,
 ⟨some 4,.move (.t 11),none,[]⟩]
def qp8:VCode:=(.seq (.seq (.region false 0 [0,3,4,9] qtb) (.cond (.t 9) .skip (.exit 0))) (.seq (.block 1 (.region false 0 [0,3,4] qs9)) (.region false 0 [0,3,4] qta)))
def qoY:List VOper:=[
 ⟨some 20,.move (.t 3),none,[]⟩,
 ⟨some 2,.move (.t 20),none,[]⟩]
def qBA:VFn:=⟨1,[.tmp 2],(.seq (.region false 0 [0] qo1) (.seq (.region false 0 [0,3] qo0) (.seq (.seq (.region false 0 [0,3,4] qoZ) (.block 0 (.loop [0,3,4] qp8))) (.seq (.region false 0 [2] qoY) .ret))))⟩
def look:List (Nat×VFn)->Nat->Option VFn
 | [],_=>none
 |(k,v)::r,n=>if n=k then some v else look r n
def qxF:List (Nat×VFn):=[(3,v3),(4,v4),(6,v6),(29,v29),(30,v30),(31,v31),(33,v33),(34,v34),(84,v84),(133,qBS),(146,qzW),(147,qBR),(150,qBQ),(151,qBP),(153,qBO),(154,qBN),(155,qBM),(156,qBL),(159,qBK),(160,qBJ),(161,qBI),(162,qBH),(163,qBG),(164,qyb),(165,qzU),(166,qBF),(170,qya),(171,qx9),(172,qwf),(173,qwe),(174,qBE),(175,qBD),(189,qwF),(190,qx8),(191,qBC),(192,qwd),(193,qwc),(194,qx7),(195,qrI),(196,qBB),(197,qBA)]
def ql1:SFn:=qeo (.region false 2 [0,3,4] qhe) (.region false 0 [0,3,4,5] qhd) (.seq (.region false 0 [0,3,4,5,10,11,12] qhc) (.block 0 (.loop [0,3,4,5,10,11,12] qgn))) (.region false 0 [3,4,5,42] qd7) 170 6
theorem qz5:qGP=qsQ (.region false 2 [0,3,4] qhe) (.region false 0 [0,3,4,5] qhd) (.seq (.region false 0 [0,3,4,5,10,11,12] qhc) (.block 0 (.loop [0,3,4,5,10,11,12] qgn))) (.region false 0 [3,4,5,42] qd7) 170 6:=rfl
def qz1:List (Nat×SFn):=[(169,ql1)]
def qEf:List (Nat×Nat):=[(161,1),(195,1)]
def qAy:List (Nat×Nat)->Nat->Option Nat
 | [],_=>none
 |(k,v)::r,n=>if n=k then some v else qAy r n
def qxe:List (Nat×(List DV->Option DV)):=[]
def E:Env:=⟨look qxF,fun k=>(qiL qxe k).map qAu,quA qz1,qAy qEf⟩
theorem qHa:E.code 3=some v3:=by kernel_rfl
theorem qG9:E.code 4=some v4:=by kernel_rfl
theorem qG8:E.code 6=some v6:=by kernel_rfl
theorem qGF:E.code 29=some v29:=by kernel_rfl
theorem qGE:E.code 30=some v30:=by kernel_rfl
theorem qGD:E.code 31=some v31:=by kernel_rfl
theorem qGC:E.code 33=some v33:=by kernel_rfl
theorem qGB:E.code 34=some v34:=by kernel_rfl
theorem qGA:E.code 84=some v84:=by kernel_rfl
theorem qEV:E.code 133=some qBS:=by kernel_rfl
theorem qEU:E.code 146=some qzW:=by kernel_rfl
theorem qET:E.code 147=some qBR:=by kernel_rfl
theorem qES:E.code 150=some qBQ:=by kernel_rfl
theorem qER:E.code 151=some qBP:=by kernel_rfl
theorem qEQ:E.code 153=some qBO:=by kernel_rfl
theorem qEP:E.code 154=some qBN:=by kernel_rfl
theorem qEO:E.code 155=some qBM:=by kernel_rfl
theorem qEN:E.code 156=some qBL:=by kernel_rfl
theorem qEM:E.code 159=some qBK:=by kernel_rfl
theorem qEL:E.code 160=some qBJ:=by kernel_rfl
theorem qEK:E.code 161=some qBI:=by kernel_rfl
theorem qEJ:E.code 162=some qBH:=by kernel_rfl
theorem qEI:E.code 163=some qBG:=by kernel_rfl
theorem qEH:E.code 164=some qyb:=by kernel_rfl
theorem qEG:E.code 165=some qzU:=by kernel_rfl
theorem qEF:E.code 166=some qBF:=by kernel_rfl
theorem qEE:E.code 170=some qya:=by kernel_rfl
theorem qED:E.code 171=some qx9:=by kernel_rfl
theorem qEC:E.code 172=some qwf:=by kernel_rfl
theorem qEB:E.code 173=some qwe:=by kernel_rfl
theorem qEA:E.code 174=some qBE:=by kernel_rfl
theorem qEz:E.code 175=some qBD:=by kernel_rfl
theorem qEy:E.code 189=some qwF:=by kernel_rfl
theorem qEx:E.code 190=some qx8:=by kernel_rfl
theorem qEw:E.code 191=some qBC:=by kernel_rfl
theorem qEv:E.code 192=some qwd:=by kernel_rfl
theorem qEu:E.code 193=some qwc:=by kernel_rfl
theorem qEt:E.code 194=some qx7:=by kernel_rfl
theorem qEs:E.code 195=some qrI:=by kernel_rfl
theorem qEr:E.code 196=some qBB:=by kernel_rfl
theorem qEq:E.code 197=some qBA:=by kernel_rfl
end Go.Proofs.Ytfiakfiocdfpbaa.VS
