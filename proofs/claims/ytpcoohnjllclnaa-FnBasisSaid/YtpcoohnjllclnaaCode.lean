/- The code of the functions that the laws reach, for the evaluator. -/
import Derived.Test.YtpcoohnjllclnaaNat0
import Derived.KernelRfl
set_option linter.unusedVariables false
namespace Go.Proofs.Ytpcoohnjllclnaa.VS
def qAv:List VOper:=[
 ⟨some 6,.move (.c (.d (.bool false))),none,[]⟩]
def qAu:List VOper:=[
 ⟨some 7,.move (.t 0),none,[]⟩,
 ⟨some 8,.move (.t 1),none,[]⟩,
 ⟨some 9,.bin .geq (.t 7) (.t 8),none,[]⟩,
 ⟨some 10,.move (.t 9),none,[]⟩,
 ⟨some 11,.move (.t 0),some (10,true),[]⟩,
 ⟨some 12,.move (.t 2),some (10,true),[]⟩,
 ⟨some 13,.bin .leq (.t 11) (.t 12),some (10,true),[]⟩,
 ⟨some 14,.pick (.t 10) (.t 13) (.c (.d (.bool false))),none,[]⟩,
 ⟨some 6,.move (.t 14),none,[]⟩]
def v30:VFn:=⟨3,[.tmp 6],(.seq (.region false 0 [0,1,2] qAv) (.seq (.region false 0 [6] qAu) .ret))⟩
def qAt:List VOper:=[
 ⟨some 6,.move (.c (.d (.bool false))),none,[]⟩]
def qAs:List VOper:=[
 ⟨some 7,.move (.t 0),none,[]⟩,
 ⟨some 8,.move (.t 1),none,[]⟩,
 ⟨some 9,.bin .geq (.t 7) (.t 8),none,[]⟩,
 ⟨some 10,.move (.t 9),none,[]⟩,
 ⟨some 11,.move (.t 0),some (10,true),[]⟩,
 ⟨some 12,.move (.t 2),some (10,true),[]⟩,
 ⟨some 13,.bin .leq (.t 11) (.t 12),some (10,true),[]⟩,
 ⟨some 14,.pick (.t 10) (.t 13) (.c (.d (.bool false))),none,[]⟩,
 ⟨some 6,.move (.t 14),none,[]⟩]
def v31:VFn:=⟨3,[.tmp 6],(.seq (.region false 0 [0,1,2] qAt) (.seq (.region false 0 [6] qAs) .ret))⟩
def qpl:List VOper:=[
 ⟨some 6,.move (.c (.d (.bool false))),none,[]⟩]
def qpk:List VOper:=[
 ⟨some 8,.move (.t 2),none,[]⟩,
 ⟨some 9,.len false (.t 8),none,[]⟩,
 ⟨some 10,.move (.t 0),none,[]⟩,
 ⟨some 11,.len false (.t 10),none,[]⟩,
 ⟨some 12,.move (.t 1),none,[]⟩,
 ⟨some 13,.len false (.t 12),none,[]⟩,
 ⟨some 14,.bin .add (.t 11) (.t 13),none,[]⟩,
 ⟨some 15,.bin .neq (.t 9) (.t 14),none,[]⟩]
def qpj:List VOper:=[
 ⟨some 6,.move (.c (.d (.bool false))),none,[]⟩]
def qpi:List VOper:=[
 ⟨some 7,.move (.c (.d (.int .i64 0))),none,[]⟩]
def qr0:List VOper:=[
 ⟨some 16,.move (.t 7),none,[]⟩,
 ⟨some 17,.move (.t 2),none,[]⟩,
 ⟨some 18,.len false (.t 17),none,[]⟩,
 ⟨some 19,.bin .lss (.t 16) (.t 18),none,[]⟩]
def qrY:List VOper:=[
 ⟨some 22,.move (.t 2),none,[]⟩,
 ⟨some 23,.move (.t 7),none,[]⟩,
 ⟨some 24,.indexAddr 1 none (.t 22) (.t 23),none,[]⟩,
 ⟨some 25,.load false 1 (.t 24),none,[]⟩,
 ⟨some 26,.bin .lss (.t 25) (.c (.d (.int .i64 0))),none,[]⟩]
def qrX:List VOper:=[
 ⟨some 6,.move (.c (.d (.bool false))),none,[]⟩]
def qrZ:List VOper:=[
 ⟨some 20,.move (.t 7),none,[]⟩,
 ⟨some 21,.bin .add (.t 20) (.c (.d (.int .i64 1))),none,[]⟩,
 ⟨some 7,.move (.t 21),none,[]⟩]
def qwq:VCode:=(.seq (.seq (.region false 0 [0,1,2,7,19] qr0) (.cond (.t 19) .skip (.exit 0))) (.seq (.block 1 (.seq (.region false 0 [0,1,2,7,26] qrY) (.cond (.t 26) (.seq (.region false 0 [6] qrX) .ret) .skip))) (.region false 0 [0,1,2,7] qrZ)))
def qrW:List VOper:=[
 ⟨some 27,.move (.t 0),none,[]⟩,
 ⟨some 28,.move (.t 2),none,[]⟩,
 ⟨some 29,.call true (.c (.fn 48 [])) [.t 27,.t 28,.c (.d (.int .i64 0))],none,[]⟩,
 ⟨some 30,.move (.t 1),none,[]⟩,
 ⟨some 31,.move (.t 2),none,[]⟩,
 ⟨some 32,.move (.t 0),none,[]⟩,
 ⟨some 33,.len false (.t 32),none,[]⟩,
 ⟨some 34,.call true (.c (.fn 48 [])) [.t 30,.t 31,.t 33],none,[]⟩,
 ⟨some 35,.bin .eql (.t 29) (.t 34),none,[]⟩,
 ⟨some 6,.move (.t 35),none,[]⟩]
def v42:VFn:=⟨3,[.tmp 6],(.seq (.region false 0 [0,1,2] qpl) (.seq (.seq (.region false 0 [0,1,2,15] qpk) (.cond (.t 15) (.seq (.region false 0 [6] qpj) .ret) .skip)) (.seq (.seq (.region false 0 [0,1,2,7] qpi) (.block 0 (.loop [0,1,2,7] qwq))) (.seq (.region false 0 [6] qrW) .ret))))⟩
def qkh:List VOper:=[
 ⟨some 6,.move (.c (.d (.bool false))),none,[]⟩]
def qkg:List VOper:=[
 ⟨some 12,.move (.t 2),none,[]⟩,
 ⟨some 13,.len false (.t 12),none,[]⟩,
 ⟨some 14,.move (.t 0),none,[]⟩,
 ⟨some 15,.len false (.t 14),none,[]⟩,
 ⟨some 16,.move (.t 1),none,[]⟩,
 ⟨some 17,.len false (.t 16),none,[]⟩,
 ⟨some 18,.bin .add (.t 15) (.t 17),none,[]⟩,
 ⟨some 19,.bin .neq (.t 13) (.t 18),none,[]⟩,
 ⟨some 20,.move (.t 19),none,[]⟩,
 ⟨some 21,.move (.t 2),some (20,false),[]⟩,
 ⟨some 22,.call false (.c (.fn 45 [])) [.t 21,.c (.fn 46 [])],some (20,false),[]⟩,
 ⟨some 23,.pick (.t 20) (.c (.d (.bool true))) (.t 22),none,[]⟩]
def qkf:List VOper:=[
 ⟨some 6,.move (.c (.d (.bool false))),none,[]⟩]
def qke:List VOper:=[
 ⟨some 7,.move (.c (.d (.int .i64 0))),none,[]⟩]
def qkd:List VOper:=[
 ⟨some 24,.move (.t 0),none,[]⟩,
 ⟨some 25,.len false (.t 24),none,[]⟩,
 ⟨some 26,.move (.c (.d (.int .i64 0))),none,[]⟩]
def ql0:List VOper:=[
 ⟨some 27,.bin .lss (.t 26) (.t 25),none,[]⟩]
def qlZ:List VOper:=[
 ⟨some 28,.move (.t 26),none,[]⟩,
 ⟨some 29,.indexAddr 1 none (.t 24) (.t 26),none,[]⟩,
 ⟨some 30,.load false 1 (.t 29),none,[]⟩,
 ⟨some 8,.move (.t 28),none,[]⟩,
 ⟨some 9,.move (.t 30),none,[]⟩]
def qlY:List VOper:=[
 ⟨some 31,.move (.t 7),none,[]⟩,
 ⟨some 32,.move (.t 9),none,[]⟩,
 ⟨some 33,.move (.t 2),none,[]⟩,
 ⟨some 34,.move (.t 8),none,[]⟩,
 ⟨some 35,.indexAddr 1 none (.t 33) (.t 34),none,[]⟩,
 ⟨some 36,.load false 1 (.t 35),none,[]⟩,
 ⟨some 37,.bin .mul (.t 32) (.t 36),none,[]⟩,
 ⟨some 38,.bin .add (.t 31) (.t 37),none,[]⟩,
 ⟨some 7,.move (.t 38),none,[]⟩]
def qlX:List VOper:=[
 ⟨some 39,.bin .add (.t 26) (.c (.d (.int .i64 1))),none,[]⟩,
 ⟨some 26,.move (.t 39),none,[]⟩]
def qx8:VCode:=(.seq (.region false 0 [0,1,2,7,24,25,26,27] ql0) (.seq (.cond (.t 27) .skip (.exit 0)) (.seq (.block 1 (.seq (.region false 0 [0,1,2,7,8,9,24,25,26] qlZ) (.region false 0 [0,1,2,7,24,25,26] qlY))) (.region false 0 [0,1,2,7,24,25,26] qlX))))
def qlW:List VOper:=[
 ⟨some 40,.move (.t 1),none,[]⟩,
 ⟨some 41,.len false (.t 40),none,[]⟩,
 ⟨some 42,.move (.c (.d (.int .i64 0))),none,[]⟩]
def qgF:List VOper:=[
 ⟨some 43,.bin .lss (.t 42) (.t 41),none,[]⟩]
def qgE:List VOper:=[
 ⟨some 44,.move (.t 42),none,[]⟩,
 ⟨some 45,.indexAddr 1 none (.t 40) (.t 42),none,[]⟩,
 ⟨some 46,.load false 1 (.t 45),none,[]⟩,
 ⟨some 10,.move (.t 44),none,[]⟩,
 ⟨some 11,.move (.t 46),none,[]⟩]
def qgD:List VOper:=[
 ⟨some 47,.move (.t 7),none,[]⟩,
 ⟨some 48,.move (.t 11),none,[]⟩,
 ⟨some 49,.move (.t 2),none,[]⟩,
 ⟨some 50,.move (.t 0),none,[]⟩,
 ⟨some 51,.len false (.t 50),none,[]⟩,
 ⟨some 52,.move (.t 10),none,[]⟩,
 ⟨some 53,.bin .add (.t 51) (.t 52),none,[]⟩,
 ⟨some 54,.indexAddr 1 none (.t 49) (.t 53),none,[]⟩,
 ⟨some 55,.load false 1 (.t 54),none,[]⟩,
 ⟨some 56,.bin .mul (.t 48) (.t 55),none,[]⟩,
 ⟨some 57,.bin .sub (.t 47) (.t 56),none,[]⟩,
 ⟨some 7,.move (.t 57),none,[]⟩]
def qgC:List VOper:=[
 ⟨some 58,.bin .add (.t 42) (.c (.d (.int .i64 1))),none,[]⟩,
 ⟨some 42,.move (.t 58),none,[]⟩]
def qx7:VCode:=(.seq (.region false 0 [0,2,7,40,41,42,43] qgF) (.seq (.cond (.t 43) .skip (.exit 2)) (.seq (.block 3 (.seq (.region false 0 [0,2,7,10,11,40,41,42] qgE) (.region false 0 [0,2,7,40,41,42] qgD))) (.region false 0 [0,2,7,40,41,42] qgC))))
def qgB:List VOper:=[
 ⟨some 59,.move (.t 7),none,[]⟩,
 ⟨some 60,.bin .eql (.t 59) (.c (.d (.int .i64 0))),none,[]⟩,
 ⟨some 6,.move (.t 60),none,[]⟩]
def v43:VFn:=⟨3,[.tmp 6],(.seq (.region false 0 [0,1,2] qkh) (.seq (.seq (.region false 0 [0,1,2,23] qkg) (.cond (.t 23) (.seq (.region false 0 [6] qkf) .ret) .skip)) (.seq (.region false 0 [0,1,2,7] qke) (.seq (.seq (.region false 0 [0,1,2,7,24,25,26] qkd) (.block 0 (.loop [0,1,2,7,24,25,26] qx8))) (.seq (.seq (.region false 0 [0,2,7,40,41,42] qlW) (.block 2 (.loop [0,2,7,40,41,42] qx7))) (.seq (.region false 0 [6] qgB) .ret))))))⟩
def qus:List VOper:=[
 ⟨some 4,.move (.c (.d (.bool false))),none,[]⟩]
def qur:List VOper:=[
 ⟨some 5,.move (.t 0),none,[]⟩,
 ⟨some 6,.move (.t 1),none,[]⟩,
 ⟨some 7,.call false (.c (.fn 47 [])) [.t 5,.t 6],none,[]⟩,
 ⟨some 8,.bin .geq (.t 7) (.c (.d (.int .i64 0))),none,[]⟩,
 ⟨some 4,.move (.t 8),none,[]⟩]
def v45:VFn:=⟨2,[.tmp 4],(.seq (.region false 0 [0,1] qus) (.seq (.region false 0 [4] qur) .ret))⟩
def qCL:List VOper:=[
 ⟨some 2,.move (.c (.d (.bool false))),none,[]⟩]
def qCK:List VOper:=[
 ⟨some 3,.move (.t 0),none,[]⟩,
 ⟨some 4,.bin .lss (.t 3) (.c (.d (.int .i64 0))),none,[]⟩,
 ⟨some 2,.move (.t 4),none,[]⟩]
def v46:VFn:=⟨1,[.tmp 2],(.seq (.region false 0 [0] qCL) (.seq (.region false 0 [2] qCK) .ret))⟩
def qji:List VOper:=[
 ⟨some 4,.move (.c (.d (.int .i64 0))),none,[]⟩]
def qjh:List VOper:=[
 ⟨some 6,.move (.t 0),none,[]⟩,
 ⟨some 7,.len false (.t 6),none,[]⟩,
 ⟨some 8,.move (.c (.d (.int .i64 0))),none,[]⟩]
def qjg:List VOper:=[
 ⟨some 9,.bin .lss (.t 8) (.t 7),none,[]⟩]
def qjf:List VOper:=[
 ⟨some 10,.move (.t 8),none,[]⟩,
 ⟨some 5,.move (.t 10),none,[]⟩]
def qje:List VOper:=[
 ⟨some 11,.move (.t 1),none,[]⟩,
 ⟨some 12,.move (.t 0),none,[]⟩,
 ⟨some 13,.move (.t 5),none,[]⟩,
 ⟨some 14,.indexAddr 1 none (.t 12) (.t 13),none,[]⟩,
 ⟨some 15,.load false 1 (.t 14),none,[]⟩,
 ⟨some 16,.call false (.t 11) [.t 15],none,[]⟩]
def qjd:List VOper:=[
 ⟨some 17,.move (.t 5),none,[]⟩,
 ⟨some 4,.move (.t 17),none,[]⟩]
def qjc:List VOper:=[
 ⟨some 18,.bin .add (.t 8) (.c (.d (.int .i64 1))),none,[]⟩,
 ⟨some 8,.move (.t 18),none,[]⟩]
def qmB:VCode:=(.seq (.region false 0 [0,1,7,8,9] qjg) (.seq (.cond (.t 9) .skip (.exit 0)) (.seq (.block 1 (.seq (.region false 0 [0,1,5,7,8] qjf) (.seq (.region false 0 [0,1,5,7,8,16] qje) (.cond (.t 16) (.seq (.region false 0 [4] qjd) .ret) .skip)))) (.region false 0 [0,1,7,8] qjc))))
def qjb:List VOper:=[
 ⟨some 4,.move (.c (.d (.int .i64 (-1)))),none,[]⟩]
def v47:VFn:=⟨2,[.tmp 4],(.seq (.region false 0 [0,1] qji) (.seq (.seq (.region false 0 [0,1,7,8] qjh) (.block 0 (.loop [0,1,7,8] qmB))) (.seq (.region false 0 [4] qjb) .ret)))⟩
def quq:List VOper:=[
 ⟨some 6,.move (.c (.d (.int .i64 0))),none,[]⟩]
def qup:List VOper:=[
 ⟨some 7,.move (.c (.d (.int .i64 0))),none,[]⟩]
def qun:List VOper:=[
 ⟨some 8,.move (.c (.d (.int .i64 0))),none,[]⟩]
def qum:List VOper:=[
 ⟨some 9,.move (.t 8),none,[]⟩,
 ⟨some 10,.move (.t 0),none,[]⟩,
 ⟨some 11,.len false (.t 10),none,[]⟩,
 ⟨some 12,.bin .lss (.t 9) (.t 11),none,[]⟩]
def qAr:List VOper:=[
 ⟨some 15,.move (.t 7),none,[]⟩,
 ⟨some 16,.move (.t 0),none,[]⟩,
 ⟨some 17,.move (.t 8),none,[]⟩,
 ⟨some 18,.indexAddr 1 none (.t 16) (.t 17),none,[1,2]⟩,
 ⟨some 19,.load false 1 (.t 18),none,[3]⟩,
 ⟨some 20,.move (.t 1),none,[]⟩,
 ⟨some 21,.move (.t 2),none,[]⟩,
 ⟨some 22,.move (.t 8),none,[]⟩,
 ⟨some 23,.bin .add (.t 21) (.t 22),none,[6,7]⟩,
 ⟨some 24,.indexAddr 1 none (.t 20) (.t 23),none,[5,8]⟩,
 ⟨some 25,.load false 1 (.t 24),none,[9]⟩,
 ⟨some 26,.bin .mul (.t 19) (.t 25),none,[4,10]⟩,
 ⟨some 27,.bin .add (.t 15) (.t 26),none,[0,11]⟩,
 ⟨some 7,.move (.t 27),none,[0,1,2,3,4,5,6,7,8,9,10,11,12]⟩]
def qul:List VOper:=[
 ⟨some 13,.move (.t 8),none,[]⟩,
 ⟨some 14,.bin .add (.t 13) (.c (.d (.int .i64 1))),none,[]⟩,
 ⟨some 8,.move (.t 14),none,[]⟩]
def qx6:VCode:=(.seq (.seq (.region false 0 [0,1,2,7,8,12] qum) (.cond (.t 12) .skip (.exit 0))) (.seq (.block 1 (.region true 0 [0,1,2,7,8] qAr)) (.region false 0 [0,1,2,7,8] qul)))
def quk:List VOper:=[
 ⟨some 28,.move (.t 7),none,[]⟩,
 ⟨some 6,.move (.t 28),none,[]⟩]
def v48:VFn:=⟨3,[.tmp 6],(.seq (.region false 0 [0,1,2] quq) (.seq (.region false 0 [0,1,2,7] qup) (.seq (.seq (.region false 0 [0,1,2,7,8] qun) (.block 0 (.loop [0,1,2,7,8] qx6))) (.seq (.region false 0 [6] quk) .ret))))⟩
def qfQ:List VOper:=[
 ⟨some 4,.move (.c (.d (.bool false))),none,[]⟩]
def qfP:List VOper:=[
 ⟨some 5,.move (.c (.d (.bool false))),none,[]⟩]
def qfO:List VOper:=[
 ⟨some 6,.move (.c (.d (.int .i64 0))),none,[]⟩]
def qfN:List VOper:=[
 ⟨some 7,.move (.t 6),none,[]⟩,
 ⟨some 8,.move (.t 0),none,[]⟩,
 ⟨some 9,.len false (.t 8),none,[]⟩,
 ⟨some 10,.bin .lss (.t 7) (.t 9),none,[]⟩,
 ⟨some 11,.move (.t 10),none,[]⟩,
 ⟨some 12,.move (.t 6),some (11,true),[]⟩,
 ⟨some 13,.move (.t 1),some (11,true),[]⟩,
 ⟨some 14,.len false (.t 13),some (11,true),[]⟩,
 ⟨some 15,.bin .lss (.t 12) (.t 14),some (11,true),[]⟩,
 ⟨some 16,.pick (.t 11) (.t 15) (.c (.d (.bool false))),none,[]⟩]
def qAq:List VOper:=[
 ⟨some 19,.move (.t 0),none,[]⟩,
 ⟨some 20,.move (.t 6),none,[]⟩,
 ⟨some 21,.indexAddr 1 none (.t 19) (.t 20),none,[0,1]⟩,
 ⟨some 22,.load false 1 (.t 21),none,[2]⟩,
 ⟨some 23,.move (.t 1),none,[]⟩,
 ⟨some 24,.move (.t 6),none,[]⟩,
 ⟨some 25,.indexAddr 1 none (.t 23) (.t 24),none,[4,5]⟩,
 ⟨some 26,.load false 1 (.t 25),none,[6]⟩,
 ⟨some 27,.bin .gtr (.t 22) (.t 26),none,[3,7]⟩]
def qfL:List VOper:=[
 ⟨some 4,.move (.c (.d (.bool false))),none,[]⟩]
def qAp:List VOper:=[
 ⟨some 28,.move (.t 5),none,[]⟩,
 ⟨some 29,.move (.t 28),none,[0]⟩,
 ⟨some 30,.move (.t 0),some (29,false),[1]⟩,
 ⟨some 31,.move (.t 6),some (29,false),[1]⟩,
 ⟨some 32,.indexAddr 1 none (.t 30) (.t 31),some (29,false),[1,2,3]⟩,
 ⟨some 33,.load false 1 (.t 32),some (29,false),[1,4]⟩,
 ⟨some 34,.move (.t 1),some (29,false),[1]⟩,
 ⟨some 35,.move (.t 6),some (29,false),[1]⟩,
 ⟨some 36,.indexAddr 1 none (.t 34) (.t 35),some (29,false),[1,6,7]⟩,
 ⟨some 37,.load false 1 (.t 36),some (29,false),[1,8]⟩,
 ⟨some 38,.bin .lss (.t 33) (.t 37),some (29,false),[1,5,9]⟩,
 ⟨some 39,.pick (.t 29) (.c (.d (.bool true))) (.t 38),none,[1,10]⟩,
 ⟨some 5,.move (.t 39),none,[0,1,2,3,4,5,6,7,8,9,10,11]⟩]
def qfM:List VOper:=[
 ⟨some 17,.move (.t 6),none,[]⟩,
 ⟨some 18,.bin .add (.t 17) (.c (.d (.int .i64 1))),none,[]⟩,
 ⟨some 6,.move (.t 18),none,[]⟩]
def qiw:VCode:=(.seq (.seq (.region false 0 [0,1,5,6,16] qfN) (.cond (.t 16) .skip (.exit 0))) (.seq (.block 1 (.seq (.seq (.region true 0 [0,1,5,6,27] qAq) (.cond (.t 27) (.seq (.region false 0 [4] qfL) .ret) .skip)) (.region true 0 [0,1,5,6] qAp))) (.region false 0 [0,1,5,6] qfM)))
def qfK:List VOper:=[
 ⟨some 40,.move (.t 5),none,[]⟩,
 ⟨some 41,.move (.t 40),none,[]⟩,
 ⟨some 42,.move (.t 0),some (41,true),[]⟩,
 ⟨some 43,.len false (.t 42),some (41,true),[]⟩,
 ⟨some 44,.move (.t 1),some (41,true),[]⟩,
 ⟨some 45,.len false (.t 44),some (41,true),[]⟩,
 ⟨some 46,.bin .eql (.t 43) (.t 45),some (41,true),[]⟩,
 ⟨some 47,.pick (.t 41) (.t 46) (.c (.d (.bool false))),none,[]⟩,
 ⟨some 4,.move (.t 47),none,[]⟩]
def v50:VFn:=⟨2,[.tmp 4],(.seq (.region false 0 [0,1] qfQ) (.seq (.region false 0 [0,1,5] qfP) (.seq (.seq (.region false 0 [0,1,5,6] qfO) (.block 0 (.loop [0,1,5,6] qiw))) (.seq (.region false 0 [4] qfK) .ret))))⟩
def qnf:List VOper:=[
 ⟨some 4,.move (.c (.d (.bool false))),none,[]⟩]
def qne:List VOper:=[
 ⟨some 7,.move (.t 0),none,[]⟩,
 ⟨some 8,.len false (.t 7),none,[]⟩,
 ⟨some 9,.move (.t 1),none,[]⟩,
 ⟨some 10,.len false (.t 9),none,[]⟩,
 ⟨some 11,.bin .neq (.t 8) (.t 10),none,[]⟩]
def qnd:List VOper:=[
 ⟨some 4,.move (.c (.d (.bool false))),none,[]⟩]
def qnc:List VOper:=[
 ⟨some 5,.move (.c (.d (.bool false))),none,[]⟩]
def qnb:List VOper:=[
 ⟨some 12,.move (.t 0),none,[]⟩,
 ⟨some 13,.len false (.t 12),none,[]⟩,
 ⟨some 14,.move (.c (.d (.int .i64 0))),none,[]⟩]
def qna:List VOper:=[
 ⟨some 15,.bin .lss (.t 14) (.t 13),none,[]⟩]
def qm9:List VOper:=[
 ⟨some 16,.move (.t 14),none,[]⟩,
 ⟨some 6,.move (.t 16),none,[]⟩]
def qAo:List VOper:=[
 ⟨some 17,.move (.t 0),none,[]⟩,
 ⟨some 18,.move (.t 6),none,[]⟩,
 ⟨some 19,.indexAddr 1 none (.t 17) (.t 18),none,[0,1]⟩,
 ⟨some 20,.load false 1 (.t 19),none,[2]⟩,
 ⟨some 21,.move (.t 1),none,[]⟩,
 ⟨some 22,.move (.t 6),none,[]⟩,
 ⟨some 23,.indexAddr 1 none (.t 21) (.t 22),none,[4,5]⟩,
 ⟨some 24,.load false 1 (.t 23),none,[6]⟩,
 ⟨some 25,.bin .gtr (.t 20) (.t 24),none,[3,7]⟩]
def qm8:List VOper:=[
 ⟨some 4,.move (.c (.d (.bool false))),none,[]⟩]
def qAn:List VOper:=[
 ⟨some 26,.move (.t 5),none,[]⟩,
 ⟨some 27,.move (.t 26),none,[0]⟩,
 ⟨some 28,.move (.t 0),some (27,false),[1]⟩,
 ⟨some 29,.move (.t 6),some (27,false),[1]⟩,
 ⟨some 30,.indexAddr 1 none (.t 28) (.t 29),some (27,false),[1,2,3]⟩,
 ⟨some 31,.load false 1 (.t 30),some (27,false),[1,4]⟩,
 ⟨some 32,.move (.t 1),some (27,false),[1]⟩,
 ⟨some 33,.move (.t 6),some (27,false),[1]⟩,
 ⟨some 34,.indexAddr 1 none (.t 32) (.t 33),some (27,false),[1,6,7]⟩,
 ⟨some 35,.load false 1 (.t 34),some (27,false),[1,8]⟩,
 ⟨some 36,.bin .lss (.t 31) (.t 35),some (27,false),[1,5,9]⟩,
 ⟨some 37,.pick (.t 27) (.c (.d (.bool true))) (.t 36),none,[1,10]⟩,
 ⟨some 5,.move (.t 37),none,[0,1,2,3,4,5,6,7,8,9,10,11]⟩]
def qhG:List VOper:=[
 ⟨some 38,.bin .add (.t 14) (.c (.d (.int .i64 1))),none,[]⟩,
 ⟨some 14,.move (.t 38),none,[]⟩]
def qsZ:VCode:=(.seq (.region false 0 [0,1,5,13,14,15] qna) (.seq (.cond (.t 15) .skip (.exit 0)) (.seq (.block 1 (.seq (.region false 0 [0,1,5,6,13,14] qm9) (.seq (.seq (.region true 0 [0,1,5,6,13,14,25] qAo) (.cond (.t 25) (.seq (.region false 0 [4] qm8) .ret) .skip)) (.region true 0 [0,1,5,13,14] qAn)))) (.region false 0 [0,1,5,13,14] qhG))))
def qhF:List VOper:=[
 ⟨some 39,.move (.t 5),none,[]⟩,
 ⟨some 4,.move (.t 39),none,[]⟩]
def v51:VFn:=⟨2,[.tmp 4],(.seq (.region false 0 [0,1] qnf) (.seq (.seq (.region false 0 [0,1,11] qne) (.cond (.t 11) (.seq (.region false 0 [4] qnd) .ret) .skip)) (.seq (.region false 0 [0,1,5] qnc) (.seq (.seq (.region false 0 [0,1,5,13,14] qnb) (.block 0 (.loop [0,1,5,13,14] qsZ))) (.seq (.region false 0 [4] qhF) .ret)))))⟩
def qyR:List VOper:=[
 ⟨some 2,.move (.c (.d (.bool false))),none,[]⟩]
def qyQ:List VOper:=[
 ⟨some 3,.move (.t 0),none,[]⟩,
 ⟨some 4,.len false (.t 3),none,[]⟩,
 ⟨some 5,.bin .gtr (.t 4) (.c (.d (.int .i64 1048576))),none,[]⟩,
 ⟨some 2,.move (.t 5),none,[]⟩]
def qBP:VFn:=⟨1,[.tmp 2],(.seq (.region false 0 [0] qyR) (.seq (.region false 0 [2] qyQ) .ret))⟩
def qnY:List VOper:=[
 ⟨some 2,.move (.c .nilp),none,[]⟩]
def qnX:List VOper:=[
 ⟨some 5,.move (.t 0),none,[]⟩,
 ⟨some 6,.len false (.t 5),none,[]⟩,
 ⟨some 7,.bin .add (.c (.d (.int .i64 27064))) (.t 6),none,[]⟩,
 ⟨some 3,.move (.t 7),none,[]⟩]
def qnW:List VOper:=[
 ⟨some 4,.move (.c (.d (.int .i64 0))),none,[]⟩]
def qqQ:List VOper:=[
 ⟨some 8,.move (.t 4),none,[]⟩,
 ⟨some 9,.move (.t 0),none,[]⟩,
 ⟨some 10,.len false (.t 9),none,[]⟩,
 ⟨some 11,.bin .lss (.t 8) (.t 10),none,[]⟩,
 ⟨some 12,.move (.t 11),none,[]⟩,
 ⟨some 13,.move (.t 4),some (12,true),[]⟩,
 ⟨some 14,.bin .lss (.t 13) (.c (.d (.int .i64 4000))),some (12,true),[]⟩,
 ⟨some 15,.pick (.t 12) (.t 14) (.c (.d (.bool false))),none,[]⟩]
def qqO:List VOper:=[
 ⟨some 18,.move (.t 3),none,[]⟩,
 ⟨some 19,.bin .mul (.t 18) (.c (.d (.int .i64 131))),none,[]⟩,
 ⟨some 20,.move (.t 0),none,[]⟩,
 ⟨some 21,.move (.t 4),none,[]⟩,
 ⟨some 22,.indexAddr 1 none (.t 20) (.t 21),none,[]⟩,
 ⟨some 23,.load false 1 (.t 22),none,[]⟩,
 ⟨some 24,.conv (.kind .i64) (.t 23),none,[]⟩,
 ⟨some 25,.bin .add (.t 19) (.t 24),none,[]⟩,
 ⟨some 26,.bin .add (.t 25) (.c (.d (.int .i64 7))),none,[]⟩,
 ⟨some 27,.bin .and (.t 26) (.c (.d (.int .i64 1073741823))),none,[]⟩,
 ⟨some 3,.move (.t 27),none,[]⟩]
def qqP:List VOper:=[
 ⟨some 16,.move (.t 4),none,[]⟩,
 ⟨some 17,.bin .add (.t 16) (.c (.d (.int .i64 1))),none,[]⟩,
 ⟨some 4,.move (.t 17),none,[]⟩]
def qoG:VCode:=(.seq (.seq (.region false 0 [0,3,4,15] qqQ) (.cond (.t 15) .skip (.exit 0))) (.seq (.block 1 (.region false 0 [0,3,4] qqO)) (.region false 0 [0,3,4] qqP)))
def qnV:List VOper:=[
 ⟨some 28,.move (.t 0),none,[]⟩,
 ⟨some 29,.move (.t 3),none,[]⟩,
 ⟨some 30,.build [.sl .nil [],.int .i64 0,.int .i64 0] [(0,1,.t 28),(2,1,.t 29)],none,[]⟩,
 ⟨some 31,.box 0 (.t 30),none,[]⟩,
 ⟨some 2,.move (.t 31),none,[]⟩]
def qBO:VFn:=⟨1,[.tmp 2],(.seq (.region false 0 [0] qnY) (.seq (.region false 0 [0,3] qnX) (.seq (.seq (.region false 0 [0,3,4] qnW) (.block 0 (.loop [0,3,4] qoG))) (.seq (.region false 1 [2] qnV) .ret))))⟩
def qyP:List VOper:=[
 ⟨some 4,.move (.c (.d (.int .i64 0))),none,[]⟩]
def qyO:List VOper:=[
 ⟨some 9,.move (.t 1),none,[]⟩,
 ⟨some 10,.bin .leq (.t 9) (.c (.d (.int .i64 0))),none,[]⟩]
def qyN:List VOper:=[
 ⟨some 4,.move (.c (.d (.int .i64 0))),none,[]⟩]
def qyM:List VOper:=[
 ⟨some 11,.move (.t 1),none,[]⟩,
 ⟨some 12,.bin .leq (.t 11) (.c (.d (.int .i64 256))),none,[]⟩]
def qyL:List VOper:=[
 ⟨some 13,.move (.t 0),none,[]⟩,
 ⟨some 14,.call false (.c (.fn 165 [])) [.t 13],none,[]⟩,
 ⟨some 15,.move (.t 1),none,[]⟩,
 ⟨some 16,.bin .rem (.t 14) (.t 15),none,[]⟩,
 ⟨some 4,.move (.t 16),none,[]⟩]
def qyK:List VOper:=[
 ⟨some 17,.move (.t 0),none,[]⟩,
 ⟨some 18,.call false (.c (.fn 165 [])) [.t 17],none,[]⟩,
 ⟨some 5,.move (.t 18),none,[]⟩]
def qyJ:List VOper:=[
 ⟨some 19,.move (.t 0),none,[]⟩,
 ⟨some 20,.call false (.c (.fn 165 [])) [.t 19],none,[]⟩,
 ⟨some 6,.move (.t 20),none,[]⟩]
def qyI:List VOper:=[
 ⟨some 21,.move (.t 0),none,[]⟩,
 ⟨some 22,.call false (.c (.fn 165 [])) [.t 21],none,[]⟩,
 ⟨some 7,.move (.t 22),none,[]⟩]
def qyH:List VOper:=[
 ⟨some 23,.move (.t 0),none,[]⟩,
 ⟨some 24,.call false (.c (.fn 165 [])) [.t 23],none,[]⟩,
 ⟨some 8,.move (.t 24),none,[]⟩]
def qyG:List VOper:=[
 ⟨some 25,.move (.t 5),none,[]⟩,
 ⟨some 26,.bin .mul (.t 25) (.c (.d (.int .i64 16777216))),none,[]⟩,
 ⟨some 27,.move (.t 6),none,[]⟩,
 ⟨some 28,.bin .mul (.t 27) (.c (.d (.int .i64 65536))),none,[]⟩,
 ⟨some 29,.bin .add (.t 26) (.t 28),none,[]⟩,
 ⟨some 30,.move (.t 7),none,[]⟩,
 ⟨some 31,.bin .mul (.t 30) (.c (.d (.int .i64 256))),none,[]⟩,
 ⟨some 32,.bin .add (.t 29) (.t 31),none,[]⟩,
 ⟨some 33,.move (.t 8),none,[]⟩,
 ⟨some 34,.bin .add (.t 32) (.t 33),none,[]⟩,
 ⟨some 35,.move (.t 1),none,[]⟩,
 ⟨some 36,.bin .rem (.t 34) (.t 35),none,[]⟩,
 ⟨some 4,.move (.t 36),none,[]⟩]
def qBN:VFn:=⟨2,[.tmp 4],(.seq (.region false 0 [0,1] qyP) (.seq (.seq (.region false 0 [0,1,10] qyO) (.cond (.t 10) (.seq (.region false 0 [4] qyN) .ret) .skip)) (.seq (.seq (.region false 0 [0,1,12] qyM) (.cond (.t 12) (.seq (.region false 0 [4] qyL) .ret) .skip)) (.seq (.region false 0 [0,1,5] qyK) (.seq (.region false 0 [0,1,5,6] qyJ) (.seq (.region false 0 [0,1,5,6,7] qyI) (.seq (.region false 0 [1,5,6,7,8] qyH) (.seq (.region false 0 [4] qyG) .ret))))))))⟩
def qyF:List VOper:=[
 ⟨some 4,.move (.c (.d (.int .i64 0))),none,[]⟩]
def qyE:List VOper:=[
 ⟨some 5,.move (.t 1),none,[]⟩,
 ⟨some 6,.move (.t 0),none,[]⟩,
 ⟨some 7,.move (.t 1),none,[]⟩,
 ⟨some 8,.len false (.t 7),none,[]⟩,
 ⟨some 9,.call false (.c (.fn 159 [])) [.t 6,.t 8],none,[]⟩,
 ⟨some 10,.indexAddr 1 none (.t 5) (.t 9),none,[]⟩,
 ⟨some 11,.load false 1 (.t 10),none,[]⟩,
 ⟨some 4,.move (.t 11),none,[]⟩]
def qBM:VFn:=⟨2,[.tmp 4],(.seq (.region false 0 [0,1] qyF) (.seq (.region false 0 [4] qyE) .ret))⟩
def quW:List VOper:=[
 ⟨some 4,.move (.c (.d (.bool false))),none,[]⟩]
def quV:List VOper:=[
 ⟨some 5,.move (.t 0),none,[]⟩,
 ⟨some 6,.move (.t 1),none,[]⟩,
 ⟨some 7,.call false (.c (.fn 159 [])) [.t 5,.t 6],none,[]⟩,
 ⟨some 8,.bin .eql (.t 7) (.c (.d (.int .i64 0))),none,[]⟩,
 ⟨some 4,.move (.t 8),none,[]⟩]
def qym:VFn:=⟨2,[.tmp 4],(.seq (.region false 0 [0,1] quW) (.seq (.region false 0 [4] quV) .ret))⟩
def quU:List VOper:=[
 ⟨some 2,.move (.c (.d (.int .i64 0))),none,[]⟩]
def quT:List VOper:=[
 ⟨some 4,.move (.t 0),none,[]⟩,
 ⟨some 5,.move (.t 0),none,[]⟩,
 ⟨some 6,.nilCheck (.t 5),none,[]⟩,
 ⟨some 7,.fieldAddr 2 (.t 6),none,[]⟩,
 ⟨some 8,.load false 1 (.t 7),none,[]⟩,
 ⟨some 9,.bin .mul (.t 8) (.c (.d (.int .i64 6364136223846793005))),none,[]⟩,
 ⟨some 10,.bin .add (.t 9) (.c (.d (.int .i64 1442695040888963407))),none,[]⟩,
 ⟨some 11,.nilCheck (.t 4),none,[]⟩,
 ⟨some 12,.fieldAddr 2 (.t 11),none,[]⟩,
 ⟨none,.store false 1 (.t 12) (.t 10),none,[]⟩]
def quS:List VOper:=[
 ⟨some 13,.move (.t 0),none,[]⟩,
 ⟨some 14,.nilCheck (.t 13),none,[0]⟩,
 ⟨some 15,.fieldAddr 2 (.t 14),none,[1]⟩,
 ⟨some 16,.load false 1 (.t 15),none,[2]⟩,
 ⟨some 17,.bin .shr (.t 16) (.c (.d (.int .u64 33))),none,[3]⟩,
 ⟨some 18,.move (.t 0),none,[]⟩,
 ⟨some 19,.nilCheck (.t 18),none,[5]⟩,
 ⟨some 20,.fieldAddr 2 (.t 19),none,[6]⟩,
 ⟨some 21,.load false 1 (.t 20),none,[7]⟩,
 ⟨some 22,.bin .shr (.t 21) (.c (.d (.int .u64 45))),none,[8]⟩,
 ⟨some 23,.bin .xor (.t 17) (.t 22),none,[4,9]⟩,
 ⟨some 24,.bin .and (.t 23) (.c (.d (.int .i64 255))),none,[10]⟩,
 ⟨some 3,.move (.t 24),none,[0,1,2,3,4,5,6,7,8,9,10,11]⟩]
def quR:List VOper:=[
 ⟨some 25,.move (.t 0),none,[]⟩,
 ⟨some 26,.nilCheck (.t 25),none,[0]⟩,
 ⟨some 27,.fieldAddr 1 (.t 26),none,[1]⟩,
 ⟨some 28,.load false 1 (.t 27),none,[2]⟩,
 ⟨some 29,.move (.t 0),none,[]⟩,
 ⟨some 30,.nilCheck (.t 29),none,[4]⟩,
 ⟨some 31,.fieldAddr 0 (.t 30),none,[5]⟩,
 ⟨some 32,.load false 1 (.t 31),none,[6]⟩,
 ⟨some 33,.len false (.t 32),none,[7]⟩,
 ⟨some 34,.bin .lss (.t 28) (.t 33),none,[3,8]⟩]
def quQ:List VOper:=[
 ⟨some 35,.move (.t 3),none,[]⟩,
 ⟨some 36,.move (.t 0),none,[]⟩,
 ⟨some 37,.nilCheck (.t 36),none,[1]⟩,
 ⟨some 38,.fieldAddr 0 (.t 37),none,[2]⟩,
 ⟨some 39,.load false 1 (.t 38),none,[3]⟩,
 ⟨some 40,.move (.t 0),none,[]⟩,
 ⟨some 41,.nilCheck (.t 40),none,[5]⟩,
 ⟨some 42,.fieldAddr 1 (.t 41),none,[6]⟩,
 ⟨some 43,.load false 1 (.t 42),none,[7]⟩,
 ⟨some 44,.indexAddr 1 none (.t 39) (.t 43),none,[4,8]⟩,
 ⟨some 45,.load false 1 (.t 44),none,[9]⟩,
 ⟨some 46,.conv (.kind .i64) (.t 45),none,[10]⟩,
 ⟨some 47,.bin .add (.t 35) (.t 46),none,[0,11]⟩,
 ⟨some 48,.bin .and (.t 47) (.c (.d (.int .i64 255))),none,[12]⟩,
 ⟨some 3,.move (.t 48),none,[0,1,2,3,4,5,6,7,8,9,10,11,12,13]⟩]
def quP:List VOper:=[
 ⟨some 49,.move (.t 0),none,[]⟩,
 ⟨some 50,.move (.t 0),none,[]⟩,
 ⟨some 51,.nilCheck (.t 50),none,[]⟩,
 ⟨some 52,.fieldAddr 1 (.t 51),none,[]⟩,
 ⟨some 53,.load false 1 (.t 52),none,[]⟩,
 ⟨some 54,.bin .add (.t 53) (.c (.d (.int .i64 1))),none,[]⟩,
 ⟨some 55,.nilCheck (.t 49),none,[]⟩,
 ⟨some 56,.fieldAddr 1 (.t 55),none,[]⟩,
 ⟨none,.store false 1 (.t 56) (.t 54),none,[]⟩]
def quO:List VOper:=[
 ⟨some 57,.move (.t 3),none,[]⟩,
 ⟨some 2,.move (.t 57),none,[]⟩]
def qz6:VFn:=⟨1,[.tmp 2],(.seq (.region false 0 [0] quU) (.seq (.region false 0 [0] quT) (.seq (.region true 0 [0,3] quS) (.seq (.seq (.region true 0 [0,3,34] quR) (.cond (.t 34) (.seq (.region true 0 [0,3] quQ) (.region false 0 [3] quP)) .skip)) (.seq (.region false 0 [2] quO) .ret)))))⟩
def qgJ:List VOper:=[
 ⟨some 4,.move (.c (.d (.bool false))),none,[]⟩]
def qgI:List VOper:=[
 ⟨some 6,.move (.t 0),none,[]⟩,
 ⟨some 7,.len false (.t 6),none,[]⟩,
 ⟨some 8,.move (.t 1),none,[]⟩,
 ⟨some 9,.len false (.t 8),none,[]⟩,
 ⟨some 10,.bin .neq (.t 7) (.t 9),none,[]⟩]
def qii:List VOper:=[
 ⟨some 4,.move (.c (.d (.bool false))),none,[]⟩]
def qgH:List VOper:=[
 ⟨some 5,.move (.c (.d (.int .i64 0))),none,[]⟩]
def qih:List VOper:=[
 ⟨some 11,.move (.t 5),none,[]⟩,
 ⟨some 12,.move (.t 0),none,[]⟩,
 ⟨some 13,.len false (.t 12),none,[]⟩,
 ⟨some 14,.bin .lss (.t 11) (.t 13),none,[]⟩]
def quN:List VOper:=[
 ⟨some 17,.move (.t 0),none,[]⟩,
 ⟨some 18,.move (.t 5),none,[]⟩,
 ⟨some 19,.indexAddr 1 none (.t 17) (.t 18),none,[0,1]⟩,
 ⟨some 20,.load false 1 (.t 19),none,[2]⟩,
 ⟨some 21,.move (.t 1),none,[]⟩,
 ⟨some 22,.move (.t 5),none,[]⟩,
 ⟨some 23,.indexAddr 1 none (.t 21) (.t 22),none,[4,5]⟩,
 ⟨some 24,.load false 1 (.t 23),none,[6]⟩,
 ⟨some 25,.bin .neq (.t 20) (.t 24),none,[3,7]⟩]
def qif:List VOper:=[
 ⟨some 4,.move (.c (.d (.bool false))),none,[]⟩]
def qig:List VOper:=[
 ⟨some 15,.move (.t 5),none,[]⟩,
 ⟨some 16,.bin .add (.t 15) (.c (.d (.int .i64 1))),none,[]⟩,
 ⟨some 5,.move (.t 16),none,[]⟩]
def qit:VCode:=(.seq (.seq (.region false 0 [0,1,5,14] qih) (.cond (.t 14) .skip (.exit 0))) (.seq (.block 1 (.seq (.region true 0 [0,1,5,25] quN) (.cond (.t 25) (.seq (.region false 0 [4] qif) .ret) .skip))) (.region false 0 [0,1,5] qig)))
def qgG:List VOper:=[
 ⟨some 4,.move (.c (.d (.bool true))),none,[]⟩]
def qw7:VFn:=⟨2,[.tmp 4],(.seq (.region false 0 [0,1] qgJ) (.seq (.seq (.region false 0 [0,1,10] qgI) (.cond (.t 10) (.seq (.region false 0 [4] qii) .ret) .skip)) (.seq (.seq (.region false 0 [0,1,5] qgH) (.block 0 (.loop [0,1,5] qit))) (.seq (.region false 0 [4] qgG) .ret))))⟩
def quM:List VOper:=[
 ⟨some 2,.move (.c (.d (.sl .nil []))),none,[]⟩]
def quL:List VOper:=[
 ⟨some 5,.buildSlice 1 (.int .i64 0) 0 [],none,[]⟩,
 ⟨some 3,.move (.t 5),none,[]⟩]
def quK:List VOper:=[
 ⟨some 4,.move (.c (.d (.int .i64 0))),none,[]⟩]
def qqN:List VOper:=[
 ⟨some 6,.move (.t 4),none,[]⟩,
 ⟨some 7,.move (.t 0),none,[]⟩,
 ⟨some 8,.call false (.c (.fn 159 [])) [.t 7,.c (.d (.int .i64 6))],none,[]⟩,
 ⟨some 9,.bin .lss (.t 6) (.t 8),none,[]⟩]
def qyC:List VOper:=[
 ⟨some 12,.move (.t 3),none,[]⟩,
 ⟨some 13,.move (.t 0),none,[]⟩,
 ⟨some 14,.buildSlice 1 (.int .i64 0) 6 [(0,.c (.d (.int .i64 0))),(1,.c (.d (.int .i64 1))),(2,.c (.d (.int .i64 2))),(3,.c (.d (.int .i64 5))),(4,.c (.d (.int .i64 9))),(5,.c (.d (.int .i64 (-3))))],none,[]⟩,
 ⟨some 15,.call false (.c (.fn 160 [])) [.t 13,.t 14],none,[]⟩,
 ⟨some 16,.buildSlice 1 (.int .i64 0) 1 [(0,.t 15)],none,[]⟩,
 ⟨some 17,.append 1 8 (.t 12) (.t 16),none,[]⟩,
 ⟨some 3,.move (.t 17),none,[]⟩]
def qyD:List VOper:=[
 ⟨some 10,.move (.t 4),none,[]⟩,
 ⟨some 11,.bin .add (.t 10) (.c (.d (.int .i64 1))),none,[]⟩,
 ⟨some 4,.move (.t 11),none,[]⟩]
def qlD:VCode:=(.seq (.seq (.region false 0 [0,3,4,9] qqN) (.cond (.t 9) .skip (.exit 0))) (.seq (.block 1 (.region false 0 [0,3,4] qyC)) (.region false 0 [0,3,4] qyD)))
def qqM:List VOper:=[
 ⟨some 18,.move (.t 3),none,[]⟩,
 ⟨some 2,.move (.t 18),none,[]⟩]
def qBL:VFn:=⟨1,[.tmp 2],(.seq (.region false 0 [0] quM) (.seq (.region false 0 [0,3] quL) (.seq (.seq (.region false 0 [0,3,4] quK) (.block 0 (.loop [0,3,4] qlD))) (.seq (.region false 0 [2] qqM) .ret))))⟩
def qk9:List VOper:=[
 ⟨some 2,.move (.c (.d (.bool false))),none,[]⟩]
def qk8:List VOper:=[
 ⟨some 21,.move (.t 0),none,[]⟩,
 ⟨some 22,.call true (.c (.fn 133 [])) [.t 21],none,[]⟩]
def qk7:List VOper:=[
 ⟨some 2,.move (.c (.d (.bool true))),none,[]⟩]
def qnU:List VOper:=[
 ⟨some 24,.move (.t 0),none,[]⟩,
 ⟨some 25,.call true (.c (.fn 206 [])) [.t 24],none,[]⟩,
 ⟨some 23,.move (.t 25),none,[]⟩,
 ⟨some 26,.extract (.t 23) 0,none,[]⟩,
 ⟨some 27,.extract (.t 23) 1,none,[]⟩,
 ⟨some 3,.move (.t 26),none,[]⟩,
 ⟨some 4,.move (.t 27),none,[]⟩]
def qnT:List VOper:=[
 ⟨some 29,.move (.t 3),none,[]⟩,
 ⟨some 30,.move (.t 4),none,[]⟩,
 ⟨some 31,.call true (.c (.fn 207 [])) [.t 29,.t 30],none,[]⟩,
 ⟨some 28,.move (.t 31),none,[]⟩,
 ⟨some 32,.extract (.t 28) 0,none,[]⟩,
 ⟨some 33,.extract (.t 28) 1,none,[]⟩,
 ⟨some 5,.move (.t 32),none,[]⟩,
 ⟨some 6,.move (.t 33),none,[]⟩]
def qnS:List VOper:=[
 ⟨some 35,.move (.t 3),none,[]⟩,
 ⟨some 36,.move (.t 4),none,[]⟩,
 ⟨some 37,.call true (.c (.fn 208 [])) [.t 35,.t 36],none,[]⟩,
 ⟨some 34,.move (.t 37),none,[]⟩,
 ⟨some 38,.extract (.t 34) 0,none,[]⟩,
 ⟨some 39,.extract (.t 34) 1,none,[]⟩,
 ⟨some 7,.move (.t 38),none,[]⟩,
 ⟨some 8,.move (.t 39),none,[]⟩]
def qnR:List VOper:=[
 ⟨some 41,.move (.t 0),none,[]⟩,
 ⟨some 42,.call true (.c (.fn 209 [])) [.t 41],none,[]⟩,
 ⟨some 40,.move (.t 42),none,[]⟩,
 ⟨some 43,.extract (.t 40) 0,none,[]⟩,
 ⟨some 44,.extract (.t 40) 1,none,[]⟩,
 ⟨some 45,.extract (.t 40) 2,none,[]⟩,
 ⟨some 9,.move (.t 43),none,[]⟩,
 ⟨some 10,.move (.t 44),none,[]⟩,
 ⟨some 11,.move (.t 45),none,[]⟩]
def qnQ:List VOper:=[
 ⟨some 47,.move (.t 0),none,[]⟩,
 ⟨some 48,.call true (.c (.fn 210 [])) [.t 47],none,[]⟩,
 ⟨some 46,.move (.t 48),none,[]⟩,
 ⟨some 49,.extract (.t 46) 0,none,[]⟩,
 ⟨some 50,.extract (.t 46) 1,none,[]⟩,
 ⟨some 12,.move (.t 49),none,[]⟩,
 ⟨some 13,.move (.t 50),none,[]⟩]
def qnP:List VOper:=[
 ⟨some 52,.move (.t 0),none,[]⟩,
 ⟨some 53,.call true (.c (.fn 211 [])) [.t 52],none,[]⟩,
 ⟨some 51,.move (.t 53),none,[]⟩,
 ⟨some 54,.extract (.t 51) 0,none,[]⟩,
 ⟨some 55,.extract (.t 51) 1,none,[]⟩,
 ⟨some 14,.move (.t 54),none,[]⟩,
 ⟨some 15,.move (.t 55),none,[]⟩]
def qnO:List VOper:=[
 ⟨some 56,.move (.t 6),none,[]⟩,
 ⟨some 57,.move (.t 8),none,[]⟩,
 ⟨some 58,.eqB true (.t 56) (.t 57),none,[]⟩,
 ⟨some 59,.move (.t 58),none,[]⟩,
 ⟨some 60,.move (.t 5),some (59,false),[]⟩,
 ⟨some 61,.len false (.t 60),some (59,false),[]⟩,
 ⟨some 62,.move (.t 7),some (59,false),[]⟩,
 ⟨some 63,.len false (.t 62),some (59,false),[]⟩,
 ⟨some 64,.bin .neq (.t 61) (.t 63),some (59,false),[]⟩,
 ⟨some 65,.pick (.t 59) (.c (.d (.bool true))) (.t 64),none,[]⟩,
 ⟨some 66,.move (.t 65),none,[]⟩,
 ⟨some 67,.move (.t 9),some (66,false),[]⟩,
 ⟨some 68,.move (.t 10),some (66,false),[]⟩,
 ⟨some 69,.move (.t 11),some (66,false),[]⟩,
 ⟨some 70,.call true (.c (.fn 43 [])) [.t 67,.t 68,.t 69],some (66,false),[]⟩,
 ⟨some 71,.move (.t 9),some (66,false),[]⟩,
 ⟨some 72,.move (.t 10),some (66,false),[]⟩,
 ⟨some 73,.move (.t 11),some (66,false),[]⟩,
 ⟨some 74,.call true (.c (.fn 42 [])) [.t 71,.t 72,.t 73],some (66,false),[]⟩,
 ⟨some 75,.eqB true (.t 70) (.t 74),some (66,false),[]⟩,
 ⟨some 76,.pick (.t 66) (.c (.d (.bool true))) (.t 75),none,[]⟩,
 ⟨some 77,.move (.t 76),none,[]⟩,
 ⟨some 78,.move (.t 12),some (77,false),[]⟩,
 ⟨some 79,.move (.t 13),some (77,false),[]⟩,
 ⟨some 80,.call true (.c (.fn 51 [])) [.t 78,.t 79],some (77,false),[]⟩,
 ⟨some 81,.move (.t 12),some (77,false),[]⟩,
 ⟨some 82,.move (.t 13),some (77,false),[]⟩,
 ⟨some 83,.call true (.c (.fn 50 [])) [.t 81,.t 82],some (77,false),[]⟩,
 ⟨some 84,.eqB true (.t 80) (.t 83),some (77,false),[]⟩,
 ⟨some 85,.pick (.t 77) (.c (.d (.bool true))) (.t 84),none,[]⟩,
 ⟨some 86,.move (.t 85),none,[]⟩,
 ⟨some 87,.move (.t 14),some (86,false),[]⟩,
 ⟨some 88,.move (.t 15),some (86,false),[]⟩,
 ⟨some 89,.call true (.c (.fn 212 [])) [.t 87,.t 88],some (86,false),[]⟩,
 ⟨some 90,.move (.t 14),some (86,false),[]⟩,
 ⟨some 91,.move (.t 15),some (86,false),[]⟩,
 ⟨some 92,.call true (.c (.fn 213 [])) [.t 90,.t 91],some (86,false),[]⟩,
 ⟨some 93,.call true (.c (.fn 188 [])) [.t 89,.t 92],some (86,false),[]⟩,
 ⟨some 94,.not (.t 93),some (86,false),[]⟩,
 ⟨some 95,.pick (.t 86) (.c (.d (.bool true))) (.t 94),none,[]⟩]
def qjs:List VOper:=[
 ⟨some 2,.move (.c (.d (.bool false))),none,[]⟩]
def qjr:List VOper:=[
 ⟨some 16,.move (.c (.d (.int .i64 0))),none,[]⟩]
def qhi:List VOper:=[
 ⟨some 96,.move (.t 16),none,[]⟩,
 ⟨some 97,.move (.t 5),none,[]⟩,
 ⟨some 98,.len false (.t 97),none,[]⟩,
 ⟨some 99,.bin .lss (.t 96) (.t 98),none,[]⟩]
def qpp:List VOper:=[
 ⟨some 102,.move (.t 5),none,[]⟩,
 ⟨some 103,.move (.t 16),none,[]⟩,
 ⟨some 104,.indexAddr 1 none (.t 102) (.t 103),none,[0,1]⟩,
 ⟨some 105,.load false 1 (.t 104),none,[2]⟩,
 ⟨some 106,.move (.t 7),none,[]⟩,
 ⟨some 107,.move (.t 16),none,[]⟩,
 ⟨some 108,.indexAddr 1 none (.t 106) (.t 107),none,[4,5]⟩,
 ⟨some 109,.load false 1 (.t 108),none,[6]⟩,
 ⟨some 110,.call true (.c (.fn 188 [])) [.t 105,.t 109],none,[3,7]⟩,
 ⟨some 111,.not (.t 110),none,[8]⟩,
 ⟨some 112,.move (.t 111),none,[8,9]⟩,
 ⟨some 113,.move (.t 3),some (112,false),[10]⟩,
 ⟨some 114,.move (.t 4),some (112,false),[10]⟩,
 ⟨some 115,.move (.t 5),some (112,false),[10]⟩,
 ⟨some 116,.move (.t 16),some (112,false),[10]⟩,
 ⟨some 117,.indexAddr 1 none (.t 115) (.t 116),some (112,false),[10,13,14]⟩,
 ⟨some 118,.load false 1 (.t 117),some (112,false),[10,15]⟩,
 ⟨some 119,.call true (.c (.fn 43 [])) [.t 113,.t 114,.t 118],some (112,false),[10,11,12,16]⟩,
 ⟨some 120,.not (.t 119),some (112,false),[10,17]⟩,
 ⟨some 121,.pick (.t 112) (.c (.d (.bool true))) (.t 120),none,[10,18]⟩]
def qjp:List VOper:=[
 ⟨some 2,.move (.c (.d (.bool false))),none,[]⟩]
def qjo:List VOper:=[
 ⟨some 17,.move (.c (.d (.int .i64 0))),none,[]⟩]
def ql6:List VOper:=[
 ⟨some 122,.move (.t 17),none,[]⟩,
 ⟨some 123,.move (.t 5),none,[]⟩,
 ⟨some 124,.len false (.t 123),none,[]⟩,
 ⟨some 125,.bin .lss (.t 122) (.t 124),none,[]⟩]
def qpo:List VOper:=[
 ⟨some 128,.move (.t 5),none,[]⟩,
 ⟨some 129,.move (.t 17),none,[]⟩,
 ⟨some 130,.indexAddr 1 none (.t 128) (.t 129),none,[0,1]⟩,
 ⟨some 131,.load false 1 (.t 130),none,[2]⟩,
 ⟨some 132,.move (.t 5),none,[]⟩,
 ⟨some 133,.move (.t 16),none,[]⟩,
 ⟨some 134,.indexAddr 1 none (.t 132) (.t 133),none,[4,5]⟩,
 ⟨some 135,.load false 1 (.t 134),none,[6]⟩,
 ⟨some 136,.call true (.c (.fn 51 [])) [.t 131,.t 135],none,[3,7]⟩]
def ql4:List VOper:=[
 ⟨some 2,.move (.c (.d (.bool false))),none,[]⟩]
def ql5:List VOper:=[
 ⟨some 126,.move (.t 17),none,[]⟩,
 ⟨some 127,.bin .add (.t 126) (.c (.d (.int .i64 1))),none,[]⟩,
 ⟨some 17,.move (.t 127),none,[]⟩]
def qoE:VCode:=(.seq (.seq (.region false 0 [0,3,4,5,6,7,16,17,125] ql6) (.cond (.t 125) .skip (.exit 2))) (.seq (.block 3 (.seq (.region true 0 [0,3,4,5,6,7,16,17,136] qpo) (.cond (.t 136) (.seq (.region false 0 [2] ql4) .ret) .skip))) (.region false 0 [0,3,4,5,6,7,16,17] ql5)))
def qjq:List VOper:=[
 ⟨some 100,.move (.t 16),none,[]⟩,
 ⟨some 101,.bin .add (.t 100) (.c (.d (.int .i64 1))),none,[]⟩,
 ⟨some 16,.move (.t 101),none,[]⟩]
def qoF:VCode:=(.seq (.seq (.region false 0 [0,3,4,5,6,7,16,99] qhi) (.cond (.t 99) .skip (.exit 0))) (.seq (.block 1 (.seq (.seq (.region true 0 [0,3,4,5,6,7,16,121] qpp) (.cond (.t 121) (.seq (.region false 0 [2] qjp) .ret) .skip)) (.seq (.region false 0 [0,3,4,5,6,7,16,17] qjo) (.block 2 (.loop [0,3,4,5,6,7,16,17] qoE))))) (.region false 0 [0,3,4,5,6,7,16] qjq)))
def qjn:List VOper:=[
 ⟨some 18,.move (.c (.d (.int .i64 0))),none,[]⟩]
def qeG:List VOper:=[
 ⟨some 137,.move (.t 6),none,[]⟩,
 ⟨some 138,.move (.t 137),none,[]⟩,
 ⟨some 139,.move (.t 18),some (138,true),[]⟩,
 ⟨some 140,.bin .lss (.t 139) (.c (.d (.int .i64 12))),some (138,true),[]⟩,
 ⟨some 141,.pick (.t 138) (.t 140) (.c (.d (.bool false))),none,[]⟩]
def qgc:List VOper:=[
 ⟨some 144,.buildSlice 1 (.int .i64 0) 0 [],none,[]⟩,
 ⟨some 19,.move (.t 144),none,[]⟩]
def qgb:List VOper:=[
 ⟨some 20,.move (.c (.d (.int .i64 0))),none,[]⟩]
def qjm:List VOper:=[
 ⟨some 145,.move (.t 20),none,[]⟩,
 ⟨some 146,.move (.t 3),none,[]⟩,
 ⟨some 147,.len false (.t 146),none,[]⟩,
 ⟨some 148,.move (.t 4),none,[]⟩,
 ⟨some 149,.len false (.t 148),none,[]⟩,
 ⟨some 150,.bin .add (.t 147) (.t 149),none,[]⟩,
 ⟨some 151,.bin .lss (.t 145) (.t 150),none,[]⟩]
def ql2:List VOper:=[
 ⟨some 154,.move (.t 19),none,[]⟩,
 ⟨some 155,.move (.t 0),none,[]⟩,
 ⟨some 156,.move (.t 18),none,[]⟩,
 ⟨some 157,.move (.t 20),none,[]⟩,
 ⟨some 158,.bin .add (.t 156) (.t 157),none,[]⟩,
 ⟨some 159,.call true (.c (.fn 214 [])) [.t 155,.t 158],none,[]⟩,
 ⟨some 160,.bin .rem (.t 159) (.c (.d (.int .i64 4))),none,[]⟩,
 ⟨some 161,.buildSlice 1 (.int .i64 0) 1 [(0,.t 160)],none,[]⟩,
 ⟨some 162,.append 1 8 (.t 154) (.t 161),none,[]⟩,
 ⟨some 19,.move (.t 162),none,[]⟩]
def ql3:List VOper:=[
 ⟨some 152,.move (.t 20),none,[]⟩,
 ⟨some 153,.bin .add (.t 152) (.c (.d (.int .i64 1))),none,[]⟩,
 ⟨some 20,.move (.t 153),none,[]⟩]
def qoD:VCode:=(.seq (.seq (.region false 0 [0,3,4,5,6,18,19,20,151] qjm) (.cond (.t 151) .skip (.exit 6))) (.seq (.block 7 (.region false 0 [0,3,4,5,6,18,19,20] ql2)) (.region false 0 [0,3,4,5,6,18,19,20] ql3)))
def qga:List VOper:=[
 ⟨some 163,.move (.t 3),none,[]⟩,
 ⟨some 164,.move (.t 4),none,[]⟩,
 ⟨some 165,.move (.t 19),none,[]⟩,
 ⟨some 166,.call true (.c (.fn 43 [])) [.t 163,.t 164,.t 165],none,[]⟩,
 ⟨some 167,.move (.t 166),none,[]⟩,
 ⟨some 168,.move (.t 5),some (167,true),[]⟩,
 ⟨some 169,.move (.t 19),some (167,true),[]⟩,
 ⟨some 170,.call true (.c (.fn 215 [])) [.t 168,.t 169],some (167,true),[]⟩,
 ⟨some 171,.not (.t 170),some (167,true),[]⟩,
 ⟨some 172,.pick (.t 167) (.t 171) (.c (.d (.bool false))),none,[]⟩,
 ⟨some 173,.move (.t 172),none,[]⟩,
 ⟨some 174,.move (.t 19),some (173,true),[]⟩,
 ⟨some 175,.call true (.c (.fn 216 [])) [.t 174],some (173,true),[]⟩,
 ⟨some 176,.not (.t 175),some (173,true),[]⟩,
 ⟨some 177,.pick (.t 173) (.t 176) (.c (.d (.bool false))),none,[]⟩]
def qf9:List VOper:=[
 ⟨some 2,.move (.c (.d (.bool false))),none,[]⟩]
def qgd:List VOper:=[
 ⟨some 142,.move (.t 18),none,[]⟩,
 ⟨some 143,.bin .add (.t 142) (.c (.d (.int .i64 1))),none,[]⟩,
 ⟨some 18,.move (.t 143),none,[]⟩]
def qg6:VCode:=(.seq (.seq (.region false 0 [0,3,4,5,6,18,141] qeG) (.cond (.t 141) .skip (.exit 4))) (.seq (.block 5 (.seq (.region false 0 [0,3,4,5,6,18,19] qgc) (.seq (.seq (.region false 0 [0,3,4,5,6,18,19,20] qgb) (.block 6 (.loop [0,3,4,5,6,18,19,20] qoD))) (.seq (.region false 0 [0,3,4,5,6,18,177] qga) (.cond (.t 177) (.seq (.region false 0 [2] qf9) .ret) .skip))))) (.region false 0 [0,3,4,5,6,18] qgd)))
def qhh:List VOper:=[
 ⟨some 178,.move (.t 6),none,[]⟩,
 ⟨some 179,.move (.t 178),none,[]⟩,
 ⟨some 180,.move (.t 5),some (179,false),[]⟩,
 ⟨some 181,.len false (.t 180),some (179,false),[]⟩,
 ⟨some 182,.bin .eql (.t 181) (.c (.d (.int .i64 0))),some (179,false),[]⟩,
 ⟨some 183,.pick (.t 179) (.c (.d (.bool true))) (.t 182),none,[]⟩,
 ⟨some 2,.move (.t 183),none,[]⟩]
def qz5:VFn:=⟨1,[.tmp 2],(.seq (.region false 0 [0] qk9) (.seq (.seq (.region false 0 [0,22] qk8) (.cond (.t 22) (.seq (.region false 0 [2] qk7) .ret) .skip)) (.seq (.region false 0 [0,3,4] qnU) (.seq (.region false 0 [0,3,4,5,6] qnT) (.seq (.region false 0 [0,3,4,5,6,7,8] qnS) (.seq (.region false 0 [0,3,4,5,6,7,8,9,10,11] qnR) (.seq (.region false 0 [0,3,4,5,6,7,8,9,10,11,12,13] qnQ) (.seq (.region false 0 [0,3,4,5,6,7,8,9,10,11,12,13,14,15] qnP) (.seq (.seq (.region false 0 [0,3,4,5,6,7,95] qnO) (.cond (.t 95) (.seq (.region false 0 [2] qjs) .ret) .skip)) (.seq (.seq (.region false 0 [0,3,4,5,6,7,16] qjr) (.block 0 (.loop [0,3,4,5,6,7,16] qoF))) (.seq (.seq (.region false 0 [0,3,4,5,6,18] qjn) (.block 4 (.loop [0,3,4,5,6,18] qg6))) (.seq (.region false 0 [2] qhh) .ret))))))))))))⟩
def qyB:List VOper:=[
 ⟨some 2,.move (.c (.d (.sl .nil []))),none,[]⟩,
 ⟨some 3,.move (.c (.d (.sl .nil []))),none,[]⟩]
def qyA:List VOper:=[
 ⟨some 6,.move (.t 0),none,[]⟩,
 ⟨some 7,.call false (.c (.fn 156 [])) [.t 6],none,[]⟩,
 ⟨some 4,.move (.t 7),none,[]⟩]
def qyz:List VOper:=[
 ⟨some 8,.move (.t 4),none,[]⟩,
 ⟨some 9,.call false (.c (.fn 231 [])) [.t 8],none,[]⟩,
 ⟨some 5,.move (.t 9),none,[]⟩]
def qyy:List VOper:=[
 ⟨some 10,.move (.t 5),none,[]⟩,
 ⟨some 11,.move (.t 4),none,[]⟩,
 ⟨some 12,.call false (.c (.fn 231 [])) [.t 11],none,[]⟩,
 ⟨some 2,.move (.t 10),none,[]⟩,
 ⟨some 3,.move (.t 12),none,[]⟩]
def qBK:VFn:=⟨1,[.tmp 2,.tmp 3],(.seq (.region false 0 [0] qyB) (.seq (.region false 0 [4] qyA) (.seq (.region false 0 [4,5] qyz) (.seq (.region false 0 [2,3] qyy) .ret))))⟩
def qdc:List VOper:=[
 ⟨some 4,.move (.c (.d (.sl .nil []))),none,[]⟩,
 ⟨some 5,.move (.c (.d (.bool false))),none,[]⟩]
def qdb:List VOper:=[
 ⟨some 16,.move (.t 0),none,[]⟩,
 ⟨some 17,.call true (.c (.fn 222 [])) [.t 16],none,[]⟩,
 ⟨some 18,.not (.t 17),none,[]⟩,
 ⟨some 19,.move (.t 18),none,[]⟩,
 ⟨some 20,.move (.t 1),some (19,false),[]⟩,
 ⟨some 21,.call true (.c (.fn 222 [])) [.t 20],some (19,false),[]⟩,
 ⟨some 22,.not (.t 21),some (19,false),[]⟩,
 ⟨some 23,.pick (.t 19) (.c (.d (.bool true))) (.t 22),none,[]⟩]
def qda:List VOper:=[
 ⟨some 4,.move (.c (.d (.sl .nil []))),none,[]⟩,
 ⟨some 5,.move (.c (.d (.bool false))),none,[]⟩]
def qc9:List VOper:=[
 ⟨some 24,.buildSlice 1 (.sl .nil []) 0 [],none,[]⟩,
 ⟨some 6,.move (.t 24),none,[]⟩]
def qc8:List VOper:=[
 ⟨some 25,.move (.t 1),none,[]⟩,
 ⟨some 26,.len false (.t 25),none,[]⟩,
 ⟨some 27,.move (.t 0),none,[]⟩,
 ⟨some 28,.call true (.c (.fn 223 [])) [.t 27],none,[]⟩,
 ⟨some 29,.call true (.c (.fn 224 [])) [.t 26,.t 28],none,[]⟩,
 ⟨some 7,.move (.t 29),none,[]⟩]
def qc7:List VOper:=[
 ⟨some 30,.move (.t 0),none,[]⟩,
 ⟨some 31,.len false (.t 30),none,[]⟩,
 ⟨some 32,.move (.t 1),none,[]⟩,
 ⟨some 33,.call true (.c (.fn 223 [])) [.t 32],none,[]⟩,
 ⟨some 34,.call true (.c (.fn 224 [])) [.t 31,.t 33],none,[]⟩,
 ⟨some 35,.len false (.t 34),none,[]⟩,
 ⟨some 36,.move (.c (.d (.int .i64 0))),none,[]⟩]
def qc6:List VOper:=[
 ⟨some 37,.bin .lss (.t 36) (.t 35),none,[]⟩]
def qc5:List VOper:=[
 ⟨some 38,.indexAddr 1 none (.t 34) (.t 36),none,[]⟩,
 ⟨some 39,.load false 1 (.t 38),none,[]⟩,
 ⟨some 9,.move (.t 39),none,[]⟩]
def qc4:List VOper:=[
 ⟨some 40,.move (.t 7),none,[]⟩,
 ⟨some 41,.len false (.t 40),none,[]⟩,
 ⟨some 42,.move (.c (.d (.int .i64 0))),none,[]⟩]
def qc3:List VOper:=[
 ⟨some 43,.bin .lss (.t 42) (.t 41),none,[]⟩]
def qbX:List VOper:=[
 ⟨some 44,.indexAddr 1 none (.t 40) (.t 42),none,[]⟩,
 ⟨some 45,.load false 1 (.t 44),none,[]⟩,
 ⟨some 11,.move (.t 45),none,[]⟩]
def qbW:List VOper:=[
 ⟨some 46,.move (.t 9),none,[]⟩,
 ⟨some 47,.move (.t 11),none,[]⟩,
 ⟨some 48,.buildSlice 1 (.sl .nil []) 2 [(0,.t 46),(1,.t 47)],none,[]⟩,
 ⟨some 49,.call true (.c (.fn 225 [])) [.t 48],none,[]⟩,
 ⟨some 12,.move (.t 49),none,[]⟩]
def qbV:List VOper:=[
 ⟨some 50,.move (.t 12),none,[]⟩,
 ⟨some 51,.call true (.c (.fn 223 [])) [.t 50],none,[]⟩,
 ⟨some 52,.bin .gtr (.t 51) (.c (.d (.int .i64 0))),none,[]⟩,
 ⟨some 53,.move (.t 52),none,[]⟩,
 ⟨some 54,.move (.t 0),some (53,true),[]⟩,
 ⟨some 55,.move (.t 1),some (53,true),[]⟩,
 ⟨some 56,.move (.t 12),some (53,true),[]⟩,
 ⟨some 57,.call true (.c (.fn 43 [])) [.t 54,.t 55,.t 56],some (53,true),[]⟩,
 ⟨some 58,.pick (.t 53) (.t 57) (.c (.d (.bool false))),none,[]⟩]
def qbU:List VOper:=[
 ⟨some 59,.move (.t 6),none,[]⟩,
 ⟨some 60,.move (.t 12),none,[]⟩,
 ⟨some 61,.buildSlice 1 (.sl .nil []) 1 [(0,.t 60)],none,[]⟩,
 ⟨some 62,.append 1 24 (.t 59) (.t 61),none,[]⟩,
 ⟨some 6,.move (.t 62),none,[]⟩]
def qbT:List VOper:=[
 ⟨some 63,.bin .add (.t 42) (.c (.d (.int .i64 1))),none,[]⟩,
 ⟨some 42,.move (.t 63),none,[]⟩]
def qjW:VCode:=(.seq (.region false 0 [0,1,6,7,9,34,35,36,40,41,42,43] qc3) (.seq (.cond (.t 43) .skip (.exit 2)) (.seq (.block 3 (.seq (.region false 0 [0,1,6,7,9,11,34,35,36,40,41,42] qbX) (.seq (.region false 0 [0,1,6,7,9,12,34,35,36,40,41,42] qbW) (.seq (.region false 0 [0,1,6,7,9,12,34,35,36,40,41,42,58] qbV) (.cond (.t 58) (.region false 0 [0,1,6,7,9,34,35,36,40,41,42] qbU) .skip))))) (.region false 0 [0,1,6,7,9,34,35,36,40,41,42] qbT))))
def qbS:List VOper:=[
 ⟨some 64,.bin .add (.t 36) (.c (.d (.int .i64 1))),none,[]⟩,
 ⟨some 36,.move (.t 64),none,[]⟩]
def qoC:VCode:=(.seq (.region false 0 [0,1,6,7,34,35,36,37] qc6) (.seq (.cond (.t 37) .skip (.exit 0)) (.seq (.block 1 (.seq (.region false 0 [0,1,6,7,9,34,35,36] qc5) (.seq (.region false 0 [0,1,6,7,9,34,35,36,40,41,42] qc4) (.block 2 (.loop [0,1,6,7,9,34,35,36,40,41,42] qjW))))) (.region false 0 [0,1,6,7,34,35,36] qbS))))
def qbR:List VOper:=[
 ⟨some 65,.buildSlice 1 (.sl .nil []) 0 [],none,[]⟩,
 ⟨some 13,.move (.t 65),none,[]⟩]
def qbQ:List VOper:=[
 ⟨some 66,.move (.t 6),none,[]⟩,
 ⟨some 67,.len false (.t 66),none,[]⟩,
 ⟨some 68,.move (.c (.d (.int .i64 0))),none,[]⟩]
def qbP:List VOper:=[
 ⟨some 69,.bin .lss (.t 68) (.t 67),none,[]⟩]
def qbO:List VOper:=[
 ⟨some 70,.indexAddr 1 none (.t 66) (.t 68),none,[]⟩,
 ⟨some 71,.load false 1 (.t 70),none,[]⟩,
 ⟨some 15,.alloc 0 [.sl .nil []],none,[]⟩,
 ⟨none,.store false 1 (.t 15) (.t 71),none,[]⟩]
def qbN:List VOper:=[
 ⟨some 72,.move (.t 6),none,[]⟩,
 ⟨some 73,.makeFunc 226 [.t 15],none,[]⟩,
 ⟨some 74,.call false (.c (.fn 227 [])) [.t 72,.t 73],none,[]⟩,
 ⟨some 75,.not (.t 74),none,[]⟩]
def qbM:List VOper:=[
 ⟨some 76,.move (.t 13),none,[]⟩,
 ⟨some 77,.load false 1 (.t 15),none,[]⟩,
 ⟨some 78,.buildSlice 1 (.sl .nil []) 1 [(0,.t 77)],none,[]⟩,
 ⟨some 79,.append 1 24 (.t 76) (.t 78),none,[]⟩,
 ⟨some 13,.move (.t 79),none,[]⟩]
def qbL:List VOper:=[
 ⟨some 80,.bin .add (.t 68) (.c (.d (.int .i64 1))),none,[]⟩,
 ⟨some 68,.move (.t 80),none,[]⟩]
def qlC:VCode:=(.seq (.region false 0 [6,13,66,67,68,69] qbP) (.seq (.cond (.t 69) .skip (.exit 4)) (.seq (.block 5 (.seq (.region false 1 [6,13,15,66,67,68] qbO) (.seq (.region false 0 [6,13,15,66,67,68,75] qbN) (.cond (.t 75) (.region false 0 [6,13,66,67,68] qbM) .skip)))) (.region false 0 [6,13,66,67,68] qbL))))
def qbK:List VOper:=[
 ⟨some 81,.move (.t 13),none,[]⟩,
 ⟨some 82,.len false (.t 81),none,[]⟩,
 ⟨some 83,.bin .gtr (.t 82) (.c (.d (.int .i64 60))),none,[]⟩]
def qbJ:List VOper:=[
 ⟨some 4,.move (.c (.d (.sl .nil []))),none,[]⟩,
 ⟨some 5,.move (.c (.d (.bool false))),none,[]⟩]
def qbI:List VOper:=[
 ⟨some 84,.move (.t 13),none,[]⟩,
 ⟨some 4,.move (.t 84),none,[]⟩,
 ⟨some 5,.move (.c (.d (.bool true))),none,[]⟩]
def qrJ:VFn:=⟨2,[.tmp 4,.tmp 5],(.seq (.region false 0 [0,1] qdc) (.seq (.seq (.region false 0 [0,1,23] qdb) (.cond (.t 23) (.seq (.region false 0 [4,5] qda) .ret) .skip)) (.seq (.region false 0 [0,1,6] qc9) (.seq (.region false 0 [0,1,6,7] qc8) (.seq (.seq (.region false 0 [0,1,6,7,34,35,36] qc7) (.block 0 (.loop [0,1,6,7,34,35,36] qoC))) (.seq (.region false 0 [6,13] qbR) (.seq (.seq (.region false 0 [6,13,66,67,68] qbQ) (.block 4 (.loop [6,13,66,67,68] qlC))) (.seq (.seq (.region false 0 [13,83] qbK) (.cond (.t 83) (.seq (.region false 0 [4,5] qbJ) .ret) .skip)) (.seq (.region false 0 [4,5] qbI) .ret)))))))))⟩
def qdZ:List VOper:=[
 ⟨some 4,.move (.c (.d (.sl .nil []))),none,[]⟩,
 ⟨some 5,.move (.c (.d (.bool false))),none,[]⟩]
def qdY:List VOper:=[
 ⟨some 11,.buildSlice 1 (.sl .nil []) 0 [],none,[]⟩,
 ⟨some 6,.move (.t 11),none,[]⟩]
def qdX:List VOper:=[
 ⟨some 12,.move (.t 0),none,[]⟩,
 ⟨some 13,.call true (.c (.fn 217 [])) [.t 12],none,[]⟩,
 ⟨some 14,.not (.t 13),none,[]⟩,
 ⟨some 15,.move (.t 14),none,[]⟩,
 ⟨some 16,.move (.t 1),some (15,false),[]⟩,
 ⟨some 17,.call true (.c (.fn 217 [])) [.t 16],some (15,false),[]⟩,
 ⟨some 18,.not (.t 17),some (15,false),[]⟩,
 ⟨some 19,.pick (.t 15) (.c (.d (.bool true))) (.t 18),none,[]⟩]
def qdW:List VOper:=[
 ⟨some 20,.move (.t 6),none,[]⟩,
 ⟨some 4,.move (.t 20),none,[]⟩,
 ⟨some 5,.move (.c (.d (.bool false))),none,[]⟩]
def qdV:List VOper:=[
 ⟨some 21,.move (.t 0),none,[]⟩,
 ⟨some 22,.move (.t 1),none,[]⟩,
 ⟨some 23,.call true (.c (.fn 218 [])) [.t 21,.t 22],none,[]⟩,
 ⟨some 7,.move (.t 23),none,[]⟩]
def qdU:List VOper:=[
 ⟨some 8,.move (.c (.d (.int .i64 0))),none,[]⟩]
def qdT:List VOper:=[
 ⟨some 24,.move (.t 8),none,[]⟩,
 ⟨some 25,.move (.t 7),none,[]⟩,
 ⟨some 26,.len false (.t 25),none,[]⟩,
 ⟨some 27,.bin .lss (.t 24) (.t 26),none,[]⟩]
def qdR:List VOper:=[
 ⟨some 9,.move (.c (.d (.bool true))),none,[]⟩]
def qdQ:List VOper:=[
 ⟨some 10,.move (.c (.d (.int .i64 0))),none,[]⟩]
def qcA:List VOper:=[
 ⟨some 30,.move (.t 10),none,[]⟩,
 ⟨some 31,.move (.t 7),none,[]⟩,
 ⟨some 32,.len false (.t 31),none,[]⟩,
 ⟨some 33,.bin .lss (.t 30) (.t 32),none,[]⟩,
 ⟨some 34,.move (.t 33),none,[]⟩,
 ⟨some 35,.move (.t 9),some (34,true),[]⟩,
 ⟨some 36,.pick (.t 34) (.t 35) (.c (.d (.bool false))),none,[]⟩]
def qpn:List VOper:=[
 ⟨some 39,.move (.t 7),none,[]⟩,
 ⟨some 40,.move (.t 10),none,[]⟩,
 ⟨some 41,.indexAddr 1 none (.t 39) (.t 40),none,[0,1]⟩,
 ⟨some 42,.load false 1 (.t 41),none,[2]⟩,
 ⟨some 43,.move (.t 7),none,[]⟩,
 ⟨some 44,.move (.t 8),none,[]⟩,
 ⟨some 45,.indexAddr 1 none (.t 43) (.t 44),none,[4,5]⟩,
 ⟨some 46,.load false 1 (.t 45),none,[6]⟩,
 ⟨some 47,.call true (.c (.fn 50 [])) [.t 42,.t 46],none,[3,7]⟩,
 ⟨some 48,.not (.t 47),none,[8]⟩,
 ⟨some 9,.move (.t 48),none,[0,1,2,3,4,5,6,7,8,9]⟩]
def qcz:List VOper:=[
 ⟨some 37,.move (.t 10),none,[]⟩,
 ⟨some 38,.bin .add (.t 37) (.c (.d (.int .i64 1))),none,[]⟩,
 ⟨some 10,.move (.t 38),none,[]⟩]
def qg5:VCode:=(.seq (.seq (.region false 0 [6,7,8,9,10,36] qcA) (.cond (.t 36) .skip (.exit 2))) (.seq (.block 3 (.region true 0 [6,7,8,9,10] qpn)) (.region false 0 [6,7,8,9,10] qcz)))
def qcy:List VOper:=[
 ⟨some 49,.move (.t 9),none,[]⟩]
def qcx:List VOper:=[
 ⟨some 50,.move (.t 6),none,[]⟩,
 ⟨some 51,.move (.t 7),none,[]⟩,
 ⟨some 52,.move (.t 8),none,[]⟩,
 ⟨some 53,.indexAddr 1 none (.t 51) (.t 52),none,[]⟩,
 ⟨some 54,.load false 1 (.t 53),none,[]⟩,
 ⟨some 55,.buildSlice 1 (.sl .nil []) 1 [(0,.t 54)],none,[]⟩,
 ⟨some 56,.append 1 24 (.t 50) (.t 55),none,[]⟩,
 ⟨some 6,.move (.t 56),none,[]⟩]
def qdS:List VOper:=[
 ⟨some 28,.move (.t 8),none,[]⟩,
 ⟨some 29,.bin .add (.t 28) (.c (.d (.int .i64 1))),none,[]⟩,
 ⟨some 8,.move (.t 29),none,[]⟩]
def qlB:VCode:=(.seq (.seq (.region false 0 [6,7,8,27] qdT) (.cond (.t 27) .skip (.exit 0))) (.seq (.block 1 (.seq (.region false 0 [6,7,8,9] qdR) (.seq (.seq (.region false 0 [6,7,8,9,10] qdQ) (.block 2 (.loop [6,7,8,9,10] qg5))) (.seq (.region false 0 [6,7,8,49] qcy) (.cond (.t 49) (.region false 0 [6,7,8] qcx) .skip))))) (.region false 0 [6,7,8] qdS)))
def qcw:List VOper:=[
 ⟨some 57,.move (.t 6),none,[]⟩,
 ⟨some 58,.len false (.t 57),none,[]⟩,
 ⟨some 59,.bin .gtr (.t 58) (.c (.d (.int .i64 60))),none,[]⟩]
def qcv:List VOper:=[
 ⟨some 60,.buildSlice 1 (.sl .nil []) 0 [],none,[]⟩,
 ⟨some 4,.move (.t 60),none,[]⟩,
 ⟨some 5,.move (.c (.d (.bool false))),none,[]⟩]
def qcu:List VOper:=[
 ⟨some 61,.move (.t 6),none,[]⟩,
 ⟨some 4,.move (.t 61),none,[]⟩,
 ⟨some 5,.move (.c (.d (.bool true))),none,[]⟩]
def qt1:VFn:=⟨2,[.tmp 4,.tmp 5],(.seq (.region false 0 [0,1] qdZ) (.seq (.region false 0 [0,1,6] qdY) (.seq (.seq (.region false 0 [0,1,6,19] qdX) (.cond (.t 19) (.seq (.region false 0 [4,5] qdW) .ret) .skip)) (.seq (.region false 0 [6,7] qdV) (.seq (.seq (.region false 0 [6,7,8] qdU) (.block 0 (.loop [6,7,8] qlB))) (.seq (.seq (.region false 0 [6,59] qcw) (.cond (.t 59) (.seq (.region false 0 [4,5] qcv) .ret) .skip)) (.seq (.region false 0 [4,5] qcu) .ret)))))))⟩
def qnN:List VOper:=[
 ⟨some 2,.move (.c (.d (.sl .nil []))),none,[]⟩,
 ⟨some 3,.move (.c (.d (.sl .nil []))),none,[]⟩,
 ⟨some 4,.move (.c (.d (.sl .nil []))),none,[]⟩]
def qnM:List VOper:=[
 ⟨some 10,.move (.t 0),none,[]⟩,
 ⟨some 11,.call false (.c (.fn 156 [])) [.t 10],none,[]⟩,
 ⟨some 5,.move (.t 11),none,[]⟩]
def qnL:List VOper:=[
 ⟨some 12,.move (.t 5),none,[]⟩,
 ⟨some 13,.call false (.c (.fn 231 [])) [.t 12],none,[]⟩,
 ⟨some 6,.move (.t 13),none,[]⟩]
def qnK:List VOper:=[
 ⟨some 14,.move (.t 5),none,[]⟩,
 ⟨some 15,.call false (.c (.fn 231 [])) [.t 14],none,[]⟩,
 ⟨some 7,.move (.t 15),none,[]⟩]
def qnJ:List VOper:=[
 ⟨some 17,.move (.t 6),none,[]⟩,
 ⟨some 18,.move (.t 7),none,[]⟩,
 ⟨some 19,.call true (.c (.fn 208 [])) [.t 17,.t 18],none,[]⟩,
 ⟨some 16,.move (.t 19),none,[]⟩,
 ⟨some 20,.extract (.t 16) 0,none,[]⟩,
 ⟨some 21,.extract (.t 16) 1,none,[]⟩,
 ⟨some 8,.move (.t 20),none,[]⟩,
 ⟨some 9,.move (.t 21),none,[]⟩]
def qnI:List VOper:=[
 ⟨some 22,.move (.t 8),none,[]⟩,
 ⟨some 23,.len false (.t 22),none,[]⟩,
 ⟨some 24,.bin .gtr (.t 23) (.c (.d (.int .i64 0))),none,[]⟩,
 ⟨some 25,.move (.t 24),none,[]⟩,
 ⟨some 26,.move (.t 5),some (25,true),[]⟩,
 ⟨some 27,.call false (.c (.fn 162 [])) [.t 26,.c (.d (.int .i64 3))],some (25,true),[]⟩,
 ⟨some 28,.not (.t 27),some (25,true),[]⟩,
 ⟨some 29,.pick (.t 25) (.t 28) (.c (.d (.bool false))),none,[]⟩]
def qnH:List VOper:=[
 ⟨some 30,.move (.t 6),none,[]⟩,
 ⟨some 31,.move (.t 7),none,[]⟩,
 ⟨some 32,.buildSlice 1 (.int .i64 0) 0 [],none,[]⟩,
 ⟨some 33,.move (.t 8),none,[]⟩,
 ⟨some 34,.move (.t 5),none,[]⟩,
 ⟨some 35,.move (.t 8),none,[]⟩,
 ⟨some 36,.len false (.t 35),none,[]⟩,
 ⟨some 37,.call false (.c (.fn 159 [])) [.t 34,.t 36],none,[]⟩,
 ⟨some 38,.indexAddr 1 none (.t 33) (.t 37),none,[]⟩,
 ⟨some 39,.load false 1 (.t 38),none,[]⟩,
 ⟨some 40,.append 1 8 (.t 32) (.t 39),none,[]⟩,
 ⟨some 2,.move (.t 30),none,[]⟩,
 ⟨some 3,.move (.t 31),none,[]⟩,
 ⟨some 4,.move (.t 40),none,[]⟩]
def qnG:List VOper:=[
 ⟨some 41,.move (.t 6),none,[]⟩,
 ⟨some 42,.move (.t 7),none,[]⟩,
 ⟨some 43,.move (.t 5),none,[]⟩,
 ⟨some 44,.call false (.c (.fn 203 [])) [.t 43],none,[]⟩,
 ⟨some 2,.move (.t 41),none,[]⟩,
 ⟨some 3,.move (.t 42),none,[]⟩,
 ⟨some 4,.move (.t 44),none,[]⟩]
def qs4:VFn:=⟨1,[.tmp 2,.tmp 3,.tmp 4],(.seq (.region false 0 [0] qnN) (.seq (.region false 0 [5] qnM) (.seq (.region false 0 [5,6] qnL) (.seq (.region false 0 [5,6,7] qnK) (.seq (.region false 0 [5,6,7,8] qnJ) (.seq (.seq (.region false 0 [5,6,7,8,29] qnI) (.cond (.t 29) (.seq (.region false 0 [2,3,4] qnH) .ret) .skip)) (.seq (.region false 0 [2,3,4] qnG) .ret)))))))⟩
def qc2:List VOper:=[
 ⟨some 2,.move (.c (.d (.sl .nil []))),none,[]⟩,
 ⟨some 3,.move (.c (.d (.sl .nil []))),none,[]⟩]
def qc1:List VOper:=[
 ⟨some 7,.move (.t 0),none,[]⟩,
 ⟨some 8,.call false (.c (.fn 156 [])) [.t 7],none,[]⟩,
 ⟨some 4,.move (.t 8),none,[]⟩]
def qc0:List VOper:=[
 ⟨some 9,.move (.t 4),none,[]⟩,
 ⟨some 10,.call false (.c (.fn 203 [])) [.t 9],none,[]⟩,
 ⟨some 5,.move (.t 10),none,[]⟩]
def qcZ:List VOper:=[
 ⟨some 11,.buildSlice 1 (.int .i64 0) 0 [],none,[]⟩,
 ⟨some 12,.move (.t 5),none,[]⟩,
 ⟨some 13,.append 1 8 (.t 11) (.t 12),none,[]⟩,
 ⟨some 6,.move (.t 13),none,[]⟩]
def qcY:List VOper:=[
 ⟨some 14,.move (.t 6),none,[]⟩,
 ⟨some 15,.len false (.t 14),none,[]⟩,
 ⟨some 16,.bin .gtr (.t 15) (.c (.d (.int .i64 0))),none,[]⟩,
 ⟨some 17,.move (.t 16),none,[]⟩,
 ⟨some 18,.move (.t 4),some (17,true),[]⟩,
 ⟨some 19,.call false (.c (.fn 162 [])) [.t 18,.c (.d (.int .i64 2))],some (17,true),[]⟩,
 ⟨some 20,.pick (.t 17) (.t 19) (.c (.d (.bool false))),none,[]⟩]
def qcX:List VOper:=[
 ⟨some 21,.move (.t 6),none,[]⟩,
 ⟨some 22,.move (.t 6),none,[]⟩,
 ⟨some 23,.indexAddr 1 none (.t 22) (.c (.d (.int .i64 0))),none,[]⟩,
 ⟨some 24,.load false 1 (.t 23),none,[]⟩,
 ⟨some 25,.bin .add (.t 24) (.c (.d (.int .i64 1))),none,[]⟩,
 ⟨some 26,.indexAddr 1 none (.t 21) (.c (.d (.int .i64 0))),none,[]⟩,
 ⟨none,.store false 1 (.t 26) (.t 25),none,[]⟩]
def qcW:List VOper:=[
 ⟨some 27,.move (.t 4),none,[]⟩,
 ⟨some 28,.call false (.c (.fn 162 [])) [.t 27,.c (.d (.int .i64 4))],none,[]⟩]
def qcV:List VOper:=[
 ⟨some 29,.move (.t 5),none,[]⟩,
 ⟨some 30,.move (.t 4),none,[]⟩,
 ⟨some 31,.call false (.c (.fn 203 [])) [.t 30],none,[]⟩,
 ⟨some 2,.move (.t 29),none,[]⟩,
 ⟨some 3,.move (.t 31),none,[]⟩]
def qcU:List VOper:=[
 ⟨some 32,.move (.t 5),none,[]⟩,
 ⟨some 33,.move (.t 6),none,[]⟩,
 ⟨some 2,.move (.t 32),none,[]⟩,
 ⟨some 3,.move (.t 33),none,[]⟩]
def qj5:VFn:=⟨1,[.tmp 2,.tmp 3],(.seq (.region false 0 [0] qc2) (.seq (.region false 0 [4] qc1) (.seq (.region false 0 [4,5] qc0) (.seq (.region false 0 [4,5,6] qcZ) (.seq (.seq (.region false 0 [4,5,6,20] qcY) (.cond (.t 20) (.ghost (.focR 6 [4,5]) (.region false 0 [4,5,6] qcX)) .skip)) (.seq (.seq (.ghost (.frzR 6 1 [4,5]) (.region false 0 [4,5,6,28] qcW)) (.cond (.t 28) (.seq (.region false 0 [2,3] qcV) .ret) .skip)) (.seq (.region false 0 [2,3] qcU) .ret)))))))⟩
def quJ:List VOper:=[
 ⟨some 2,.move (.c (.d (.sl .nil []))),none,[]⟩,
 ⟨some 3,.move (.c (.d (.int .i64 0))),none,[]⟩]
def quI:List VOper:=[
 ⟨some 7,.move (.t 0),none,[]⟩,
 ⟨some 8,.call false (.c (.fn 156 [])) [.t 7],none,[]⟩,
 ⟨some 4,.move (.t 8),none,[]⟩]
def quH:List VOper:=[
 ⟨some 9,.buildSlice 1 (.sl .nil []) 0 [],none,[]⟩,
 ⟨some 5,.move (.t 9),none,[]⟩]
def quG:List VOper:=[
 ⟨some 6,.move (.c (.d (.int .i64 0))),none,[]⟩]
def qqL:List VOper:=[
 ⟨some 10,.move (.t 6),none,[]⟩,
 ⟨some 11,.move (.t 4),none,[]⟩,
 ⟨some 12,.call false (.c (.fn 159 [])) [.t 11,.c (.d (.int .i64 4))],none,[]⟩,
 ⟨some 13,.bin .lss (.t 10) (.t 12),none,[]⟩]
def qyw:List VOper:=[
 ⟨some 16,.move (.t 5),none,[]⟩,
 ⟨some 17,.move (.t 4),none,[]⟩,
 ⟨some 18,.call false (.c (.fn 203 [])) [.t 17],none,[]⟩,
 ⟨some 19,.buildSlice 1 (.sl .nil []) 1 [(0,.t 18)],none,[]⟩,
 ⟨some 20,.append 1 24 (.t 16) (.t 19),none,[]⟩,
 ⟨some 5,.move (.t 20),none,[]⟩]
def qyx:List VOper:=[
 ⟨some 14,.move (.t 6),none,[]⟩,
 ⟨some 15,.bin .add (.t 14) (.c (.d (.int .i64 1))),none,[]⟩,
 ⟨some 6,.move (.t 15),none,[]⟩]
def qlA:VCode:=(.seq (.seq (.region false 0 [4,5,6,13] qqL) (.cond (.t 13) .skip (.exit 0))) (.seq (.block 1 (.region false 0 [4,5,6] qyw)) (.region false 0 [4,5,6] qyx)))
def quF:List VOper:=[
 ⟨some 21,.move (.t 5),none,[]⟩,
 ⟨some 22,.move (.t 4),none,[]⟩,
 ⟨some 23,.call false (.c (.fn 159 [])) [.t 22,.c (.d (.int .i64 6))],none,[]⟩,
 ⟨some 24,.bin .sub (.t 23) (.c (.d (.int .i64 1))),none,[]⟩,
 ⟨some 2,.move (.t 21),none,[]⟩,
 ⟨some 3,.move (.t 24),none,[]⟩]
def qBJ:VFn:=⟨1,[.tmp 2,.tmp 3],(.seq (.region false 0 [0] quJ) (.seq (.region false 0 [4] quI) (.seq (.region false 0 [4,5] quH) (.seq (.seq (.region false 0 [4,5,6] quG) (.block 0 (.loop [4,5,6] qlA))) (.seq (.region false 0 [2,3] quF) .ret)))))⟩
def qk6:List VOper:=[
 ⟨some 4,.move (.c (.d (.sl .nil []))),none,[]⟩]
def qk5:List VOper:=[
 ⟨some 9,.move (.t 1),none,[]⟩,
 ⟨some 10,.call true (.c (.fn 30 [])) [.t 9,.c (.d (.int .i64 1)),.c (.d (.int .i64 1000))],none,[]⟩,
 ⟨some 11,.not (.t 10),none,[]⟩]
def qnF:List VOper:=[
 ⟨some 4,.move (.c (.d (.sl .nil []))),none,[]⟩]
def qk4:List VOper:=[
 ⟨some 12,.move (.t 1),none,[]⟩,
 ⟨some 13,.makeSlice 0 1 8 (.int .i64 0) (.t 12),none,[]⟩,
 ⟨some 5,.move (.t 13),none,[]⟩]
def qk3:List VOper:=[
 ⟨some 14,.move (.t 0),none,[]⟩,
 ⟨some 15,.len false (.t 14),none,[]⟩,
 ⟨some 16,.move (.c (.d (.int .i64 0))),none,[]⟩]
def qjl:List VOper:=[
 ⟨some 17,.bin .lss (.t 16) (.t 15),none,[]⟩]
def qjk:List VOper:=[
 ⟨some 18,.indexAddr 1 none (.t 14) (.t 16),none,[]⟩,
 ⟨some 19,.load false 1 (.t 18),none,[]⟩,
 ⟨some 7,.move (.t 19),none,[]⟩]
def qjj:List VOper:=[
 ⟨some 8,.move (.c (.d (.int .i64 0))),none,[]⟩]
def qnE:List VOper:=[
 ⟨some 20,.move (.t 8),none,[]⟩,
 ⟨some 21,.move (.t 1),none,[]⟩,
 ⟨some 22,.bin .lss (.t 20) (.t 21),none,[]⟩,
 ⟨some 23,.move (.t 22),none,[]⟩,
 ⟨some 24,.move (.t 8),some (23,true),[]⟩,
 ⟨some 25,.move (.t 7),some (23,true),[]⟩,
 ⟨some 26,.len false (.t 25),some (23,true),[]⟩,
 ⟨some 27,.bin .lss (.t 24) (.t 26),some (23,true),[]⟩,
 ⟨some 28,.pick (.t 23) (.t 27) (.c (.d (.bool false))),none,[]⟩]
def qpm:List VOper:=[
 ⟨some 31,.move (.t 5),none,[]⟩,
 ⟨some 32,.move (.t 8),none,[]⟩,
 ⟨some 33,.indexAddr 1 none (.t 31) (.t 32),none,[0,1]⟩,
 ⟨some 34,.load false 1 (.t 33),none,[2]⟩,
 ⟨some 35,.move (.t 7),none,[]⟩,
 ⟨some 36,.move (.t 8),none,[]⟩,
 ⟨some 37,.indexAddr 1 none (.t 35) (.t 36),none,[4,5]⟩,
 ⟨some 38,.load false 1 (.t 37),none,[6]⟩,
 ⟨some 39,.bin .add (.t 34) (.t 38),none,[3,7]⟩,
 ⟨some 40,.indexAddr 1 none (.t 31) (.t 32),none,[0,1,2,3,4,5,6,7,8]⟩,
 ⟨none,.store false 1 (.t 40) (.t 39),none,[0,1,2,3,4,5,6,7,8,9]⟩]
def qnD:List VOper:=[
 ⟨some 29,.move (.t 8),none,[]⟩,
 ⟨some 30,.bin .add (.t 29) (.c (.d (.int .i64 1))),none,[]⟩,
 ⟨some 8,.move (.t 30),none,[]⟩]
def qlz:VCode:=(.seq (.seq (.region false 0 [1,5,7,8,14,15,16,28] qnE) (.cond (.t 28) .skip (.exit 2))) (.seq (.block 3 (.region true 0 [1,5,7,8,14,15,16] qpm)) (.region false 0 [1,5,7,8,14,15,16] qnD)))
def qf8:List VOper:=[
 ⟨some 41,.bin .add (.t 16) (.c (.d (.int .i64 1))),none,[]⟩,
 ⟨some 16,.move (.t 41),none,[]⟩]
def qro:VCode:=(.seq (.region false 0 [1,5,14,15,16,17] qjl) (.seq (.cond (.t 17) .skip (.exit 0)) (.seq (.block 1 (.seq (.region false 0 [1,5,7,14,15,16] qjk) (.seq (.region false 0 [1,5,7,8,14,15,16] qjj) (.block 2 (.loop [1,5,7,8,14,15,16] qlz))))) (.region false 0 [1,5,14,15,16] qf8))))
def qf7:List VOper:=[
 ⟨some 42,.move (.t 5),none,[]⟩,
 ⟨some 4,.move (.t 42),none,[]⟩]
def qz4:VFn:=⟨2,[.tmp 4],(.seq (.region false 0 [0,1] qk6) (.seq (.seq (.region false 0 [0,1,11] qk5) (.cond (.t 11) (.seq (.region false 0 [4] qnF) .ret) .skip)) (.seq (.region false 1 [0,1,5] qk4) (.seq (.seq (.region false 0 [1,5,14,15,16] qk3) (.block 0 (.loop [1,5,14,15,16] qro))) (.seq (.region false 0 [4] qf7) .ret)))))⟩
def qk2:List VOper:=[
 ⟨some 4,.move (.c (.d (.sl .nil []))),none,[]⟩]
def qk1:List VOper:=[
 ⟨some 9,.buildSlice 1 (.int .i64 0) 0 [],none,[]⟩,
 ⟨some 5,.move (.t 9),none,[]⟩]
def qk0:List VOper:=[
 ⟨some 6,.move (.c (.d (.int .i64 0))),none,[]⟩]
def qie:List VOper:=[
 ⟨some 10,.move (.t 6),none,[]⟩,
 ⟨some 11,.move (.t 1),none,[]⟩,
 ⟨some 12,.bin .lss (.t 10) (.t 11),none,[]⟩,
 ⟨some 13,.move (.t 12),none,[]⟩,
 ⟨some 14,.move (.t 1),some (13,true),[]⟩,
 ⟨some 15,.bin .leq (.t 14) (.c (.d (.int .i64 1000))),some (13,true),[]⟩,
 ⟨some 16,.pick (.t 13) (.t 15) (.c (.d (.bool false))),none,[]⟩]
def qic:List VOper:=[
 ⟨some 7,.move (.c (.d (.int .i64 0))),none,[]⟩]
def qib:List VOper:=[
 ⟨some 8,.move (.c (.d (.int .i64 0))),none,[]⟩]
def qqK:List VOper:=[
 ⟨some 19,.move (.t 8),none,[]⟩,
 ⟨some 20,.move (.t 0),none,[]⟩,
 ⟨some 21,.len false (.t 20),none,[]⟩,
 ⟨some 22,.bin .lss (.t 19) (.t 21),none,[]⟩]
def qqI:List VOper:=[
 ⟨some 25,.move (.t 6),none,[]⟩,
 ⟨some 26,.move (.t 0),none,[]⟩,
 ⟨some 27,.move (.t 8),none,[]⟩,
 ⟨some 28,.indexAddr 1 none (.t 26) (.t 27),none,[]⟩,
 ⟨some 29,.load false 1 (.t 28),none,[]⟩,
 ⟨some 30,.len false (.t 29),none,[]⟩,
 ⟨some 31,.bin .lss (.t 25) (.t 30),none,[]⟩]
def ql1:List VOper:=[
 ⟨some 32,.move (.t 7),none,[]⟩,
 ⟨some 33,.move (.t 0),none,[]⟩,
 ⟨some 34,.move (.t 8),none,[]⟩,
 ⟨some 35,.indexAddr 1 none (.t 33) (.t 34),none,[]⟩,
 ⟨some 36,.load false 1 (.t 35),none,[]⟩,
 ⟨some 37,.move (.t 6),none,[]⟩,
 ⟨some 38,.indexAddr 1 none (.t 36) (.t 37),none,[]⟩,
 ⟨some 39,.load false 1 (.t 38),none,[]⟩,
 ⟨some 40,.bin .add (.t 32) (.t 39),none,[]⟩,
 ⟨some 7,.move (.t 40),none,[]⟩]
def qqJ:List VOper:=[
 ⟨some 23,.move (.t 8),none,[]⟩,
 ⟨some 24,.bin .add (.t 23) (.c (.d (.int .i64 1))),none,[]⟩,
 ⟨some 8,.move (.t 24),none,[]⟩]
def qly:VCode:=(.seq (.seq (.region false 0 [0,1,5,6,7,8,22] qqK) (.cond (.t 22) .skip (.exit 2))) (.seq (.block 3 (.seq (.region false 0 [0,1,5,6,7,8,31] qqI) (.cond (.t 31) (.region false 0 [0,1,5,6,7,8] ql1) .skip))) (.region false 0 [0,1,5,6,7,8] qqJ)))
def qfe:List VOper:=[
 ⟨some 41,.move (.t 5),none,[]⟩,
 ⟨some 42,.move (.t 7),none,[]⟩,
 ⟨some 43,.buildSlice 1 (.int .i64 0) 1 [(0,.t 42)],none,[]⟩,
 ⟨some 44,.append 1 8 (.t 41) (.t 43),none,[]⟩,
 ⟨some 5,.move (.t 44),none,[]⟩]
def qid:List VOper:=[
 ⟨some 17,.move (.t 6),none,[]⟩,
 ⟨some 18,.bin .add (.t 17) (.c (.d (.int .i64 1))),none,[]⟩,
 ⟨some 6,.move (.t 18),none,[]⟩]
def qjV:VCode:=(.seq (.seq (.region false 0 [0,1,5,6,16] qie) (.cond (.t 16) .skip (.exit 0))) (.seq (.block 1 (.seq (.region false 0 [0,1,5,6,7] qic) (.seq (.seq (.region false 0 [0,1,5,6,7,8] qib) (.block 2 (.loop [0,1,5,6,7,8] qly))) (.region false 0 [0,1,5,6] qfe)))) (.region false 0 [0,1,5,6] qid)))
def qfd:List VOper:=[
 ⟨some 45,.move (.t 5),none,[]⟩,
 ⟨some 4,.move (.t 45),none,[]⟩]
def qz3:VFn:=⟨2,[.tmp 4],(.seq (.region false 0 [0,1] qk2) (.seq (.region false 0 [0,1,5] qk1) (.seq (.seq (.region false 0 [0,1,5,6] qk0) (.block 0 (.loop [0,1,5,6] qjV))) (.seq (.region false 0 [4] qfd) .ret))))⟩
def quE:List VOper:=[
 ⟨some 4,.move (.c (.d (.int .i64 0))),none,[]⟩]
def quD:List VOper:=[
 ⟨some 5,.move (.t 1),none,[]⟩,
 ⟨some 6,.move (.t 0),none,[]⟩,
 ⟨some 7,.len false (.t 6),none,[]⟩,
 ⟨some 8,.bin .lss (.t 5) (.t 7),none,[]⟩]
def quC:List VOper:=[
 ⟨some 9,.move (.t 0),none,[]⟩,
 ⟨some 10,.move (.t 1),none,[]⟩,
 ⟨some 11,.indexAddr 1 none (.t 9) (.t 10),none,[]⟩,
 ⟨some 12,.load false 1 (.t 11),none,[]⟩,
 ⟨some 13,.conv (.kind .i64) (.t 12),none,[]⟩,
 ⟨some 4,.move (.t 13),none,[]⟩]
def quB:List VOper:=[
 ⟨some 14,.move (.t 1),none,[]⟩,
 ⟨some 15,.bin .mul (.t 14) (.c (.d (.int .i64 7))),none,[]⟩,
 ⟨some 16,.move (.t 0),none,[]⟩,
 ⟨some 17,.len false (.t 16),none,[]⟩,
 ⟨some 18,.bin .add (.t 15) (.t 17),none,[]⟩,
 ⟨some 19,.bin .rem (.t 18) (.c (.d (.int .i64 256))),none,[]⟩,
 ⟨some 4,.move (.t 19),none,[]⟩]
def qyl:VFn:=⟨2,[.tmp 4],(.seq (.region false 0 [0,1] quE) (.seq (.seq (.region false 0 [0,1,8] quD) (.cond (.t 8) (.seq (.region false 0 [4] quC) .ret) .skip)) (.seq (.region false 0 [4] quB) .ret)))⟩
def qkZ:List VOper:=[
 ⟨some 4,.move (.c (.d (.bool false))),none,[]⟩]
def qkY:List VOper:=[
 ⟨some 5,.move (.c (.d (.int .i64 0))),none,[]⟩]
def qnC:List VOper:=[
 ⟨some 6,.move (.t 5),none,[]⟩,
 ⟨some 7,.move (.t 0),none,[]⟩,
 ⟨some 8,.len false (.t 7),none,[]⟩,
 ⟨some 9,.bin .lss (.t 6) (.t 8),none,[]⟩]
def qnA:List VOper:=[
 ⟨some 12,.move (.t 0),none,[]⟩,
 ⟨some 13,.move (.t 5),none,[]⟩,
 ⟨some 14,.indexAddr 1 none (.t 12) (.t 13),none,[]⟩,
 ⟨some 15,.load false 1 (.t 14),none,[]⟩,
 ⟨some 16,.move (.t 1),none,[]⟩,
 ⟨some 17,.call true (.c (.fn 188 [])) [.t 15,.t 16],none,[]⟩,
 ⟨some 18,.move (.t 17),none,[]⟩,
 ⟨some 19,.move (.t 0),some (18,false),[]⟩,
 ⟨some 20,.move (.t 5),some (18,false),[]⟩,
 ⟨some 21,.indexAddr 1 none (.t 19) (.t 20),some (18,false),[]⟩,
 ⟨some 22,.load false 1 (.t 21),some (18,false),[]⟩,
 ⟨some 23,.move (.t 1),some (18,false),[]⟩,
 ⟨some 24,.call true (.c (.fn 50 [])) [.t 22,.t 23],some (18,false),[]⟩,
 ⟨some 25,.pick (.t 18) (.c (.d (.bool true))) (.t 24),none,[]⟩]
def qnz:List VOper:=[
 ⟨some 4,.move (.c (.d (.bool true))),none,[]⟩]
def qnB:List VOper:=[
 ⟨some 10,.move (.t 5),none,[]⟩,
 ⟨some 11,.bin .add (.t 10) (.c (.d (.int .i64 1))),none,[]⟩,
 ⟨some 5,.move (.t 11),none,[]⟩]
def qlx:VCode:=(.seq (.seq (.region false 0 [0,1,5,9] qnC) (.cond (.t 9) .skip (.exit 0))) (.seq (.block 1 (.seq (.region false 0 [0,1,5,25] qnA) (.cond (.t 25) (.seq (.region false 0 [4] qnz) .ret) .skip))) (.region false 0 [0,1,5] qnB)))
def qkX:List VOper:=[
 ⟨some 4,.move (.c (.d (.bool false))),none,[]⟩]
def qBI:VFn:=⟨2,[.tmp 4],(.seq (.region false 0 [0,1] qkZ) (.seq (.seq (.region false 0 [0,1,5] qkY) (.block 0 (.loop [0,1,5] qlx))) (.seq (.region false 0 [4] qkX) .ret)))⟩
def qny:List VOper:=[
 ⟨some 2,.move (.c (.d (.bool false))),none,[]⟩]
def qnx:List VOper:=[
 ⟨some 3,.move (.c (.d (.int .i64 0))),none,[]⟩]
def qqH:List VOper:=[
 ⟨some 4,.move (.t 3),none,[]⟩,
 ⟨some 5,.move (.t 0),none,[]⟩,
 ⟨some 6,.len false (.t 5),none,[]⟩,
 ⟨some 7,.bin .lss (.t 4) (.t 6),none,[]⟩]
def qqF:List VOper:=[
 ⟨some 10,.move (.t 0),none,[]⟩,
 ⟨some 11,.move (.t 3),none,[]⟩,
 ⟨some 12,.indexAddr 1 none (.t 10) (.t 11),none,[]⟩,
 ⟨some 13,.load false 1 (.t 12),none,[]⟩,
 ⟨some 14,.bin .neq (.t 13) (.c (.d (.int .i64 0))),none,[]⟩]
def qqE:List VOper:=[
 ⟨some 2,.move (.c (.d (.bool false))),none,[]⟩]
def qqG:List VOper:=[
 ⟨some 8,.move (.t 3),none,[]⟩,
 ⟨some 9,.bin .add (.t 8) (.c (.d (.int .i64 1))),none,[]⟩,
 ⟨some 3,.move (.t 9),none,[]⟩]
def qoB:VCode:=(.seq (.seq (.region false 0 [0,3,7] qqH) (.cond (.t 7) .skip (.exit 0))) (.seq (.block 1 (.seq (.region false 0 [0,3,14] qqF) (.cond (.t 14) (.seq (.region false 0 [2] qqE) .ret) .skip))) (.region false 0 [0,3] qqG)))
def qnw:List VOper:=[
 ⟨some 2,.move (.c (.d (.bool true))),none,[]⟩]
def qBH:VFn:=⟨1,[.tmp 2],(.seq (.region false 0 [0] qny) (.seq (.seq (.region false 0 [0,3] qnx) (.block 0 (.loop [0,3] qoB))) (.seq (.region false 0 [2] qnw) .ret)))⟩
def qkW:List VOper:=[
 ⟨some 2,.move (.c (.d (.bool false))),none,[]⟩]
def qkV:List VOper:=[
 ⟨some 3,.move (.c (.d (.int .i64 0))),none,[]⟩]
def qkU:List VOper:=[
 ⟨some 4,.move (.t 3),none,[]⟩,
 ⟨some 5,.move (.t 0),none,[]⟩,
 ⟨some 6,.len false (.t 5),none,[]⟩,
 ⟨some 7,.bin .lss (.t 4) (.t 6),none,[]⟩]
def qkS:List VOper:=[
 ⟨some 10,.move (.t 0),none,[]⟩,
 ⟨some 11,.move (.t 3),none,[]⟩,
 ⟨some 12,.indexAddr 1 none (.t 10) (.t 11),none,[]⟩,
 ⟨some 13,.load false 1 (.t 12),none,[]⟩,
 ⟨some 14,.call true (.c (.fn 31 [])) [.t 13,.c (.d (.int .i64 1)),.c (.d (.int .i64 4))],none,[]⟩,
 ⟨some 15,.not (.t 14),none,[]⟩]
def qkR:List VOper:=[
 ⟨some 2,.move (.c (.d (.bool false))),none,[]⟩]
def qkT:List VOper:=[
 ⟨some 8,.move (.t 3),none,[]⟩,
 ⟨some 9,.bin .add (.t 8) (.c (.d (.int .i64 1))),none,[]⟩,
 ⟨some 3,.move (.t 9),none,[]⟩]
def qoA:VCode:=(.seq (.seq (.region false 0 [0,3,7] qkU) (.cond (.t 7) .skip (.exit 0))) (.seq (.block 1 (.seq (.region false 0 [0,3,15] qkS) (.cond (.t 15) (.seq (.region false 0 [2] qkR) .ret) .skip))) (.region false 0 [0,3] qkT)))
def qkQ:List VOper:=[
 ⟨some 16,.move (.t 0),none,[]⟩,
 ⟨some 17,.len false (.t 16),none,[]⟩,
 ⟨some 18,.call true (.c (.fn 31 [])) [.t 17,.c (.d (.int .i64 1)),.c (.d (.int .i64 5))],none,[]⟩,
 ⟨some 2,.move (.t 18),none,[]⟩]
def qz2:VFn:=⟨1,[.tmp 2],(.seq (.region false 0 [0] qkW) (.seq (.seq (.region false 0 [0,3] qkV) (.block 0 (.loop [0,3] qoA))) (.seq (.region false 0 [2] qkQ) .ret)))⟩
def qia:List VOper:=[
 ⟨some 4,.move (.c (.d (.sl .nil []))),none,[]⟩]
def qh9:List VOper:=[
 ⟨some 12,.buildSlice 1 (.sl .nil []) 0 [],none,[]⟩,
 ⟨some 5,.move (.t 12),none,[]⟩]
def qh8:List VOper:=[
 ⟨some 13,.move (.t 0),none,[]⟩,
 ⟨some 14,.len false (.t 13),none,[]⟩,
 ⟨some 15,.move (.t 1),none,[]⟩,
 ⟨some 16,.call true (.c (.fn 219 [])) [.t 15],none,[]⟩,
 ⟨some 17,.call true (.c (.fn 220 [])) [.t 14,.t 16],none,[]⟩,
 ⟨some 6,.move (.t 17),none,[]⟩]
def qh7:List VOper:=[
 ⟨some 18,.move (.t 1),none,[]⟩,
 ⟨some 19,.len false (.t 18),none,[]⟩,
 ⟨some 20,.move (.t 0),none,[]⟩,
 ⟨some 21,.call true (.c (.fn 219 [])) [.t 20],none,[]⟩,
 ⟨some 22,.call true (.c (.fn 220 [])) [.t 19,.t 21],none,[]⟩,
 ⟨some 7,.move (.t 22),none,[]⟩]
def qh6:List VOper:=[
 ⟨some 8,.move (.c (.d (.int .i64 1))),none,[]⟩]
def qh5:List VOper:=[
 ⟨some 23,.move (.t 8),none,[]⟩,
 ⟨some 24,.move (.t 6),none,[]⟩,
 ⟨some 25,.len false (.t 24),none,[]⟩,
 ⟨some 26,.bin .lss (.t 23) (.t 25),none,[]⟩]
def qh3:List VOper:=[
 ⟨some 29,.move (.t 0),none,[]⟩,
 ⟨some 30,.move (.t 6),none,[]⟩,
 ⟨some 31,.move (.t 8),none,[]⟩,
 ⟨some 32,.indexAddr 1 none (.t 30) (.t 31),none,[]⟩,
 ⟨some 33,.load false 1 (.t 32),none,[]⟩,
 ⟨some 34,.call true (.c (.fn 48 [])) [.t 29,.t 33,.c (.d (.int .i64 0))],none,[]⟩,
 ⟨some 9,.move (.t 34),none,[]⟩]
def qh2:List VOper:=[
 ⟨some 10,.move (.c (.d (.int .i64 1))),none,[]⟩]
def qh1:List VOper:=[
 ⟨some 35,.move (.t 10),none,[]⟩,
 ⟨some 36,.move (.t 7),none,[]⟩,
 ⟨some 37,.len false (.t 36),none,[]⟩,
 ⟨some 38,.bin .lss (.t 35) (.t 37),none,[]⟩]
def qfb:List VOper:=[
 ⟨some 41,.move (.t 1),none,[]⟩,
 ⟨some 42,.move (.t 7),none,[]⟩,
 ⟨some 43,.move (.t 10),none,[]⟩,
 ⟨some 44,.indexAddr 1 none (.t 42) (.t 43),none,[]⟩,
 ⟨some 45,.load false 1 (.t 44),none,[]⟩,
 ⟨some 46,.call true (.c (.fn 48 [])) [.t 41,.t 45,.c (.d (.int .i64 0))],none,[]⟩,
 ⟨some 47,.move (.t 9),none,[]⟩,
 ⟨some 48,.bin .eql (.t 46) (.t 47),none,[]⟩]
def qfa:List VOper:=[
 ⟨some 49,.buildSlice 1 (.int .i64 0) 0 [],none,[]⟩,
 ⟨some 50,.move (.t 6),none,[]⟩,
 ⟨some 51,.move (.t 8),none,[]⟩,
 ⟨some 52,.indexAddr 1 none (.t 50) (.t 51),none,[]⟩,
 ⟨some 53,.load false 1 (.t 52),none,[]⟩,
 ⟨some 54,.append 1 8 (.t 49) (.t 53),none,[]⟩,
 ⟨some 11,.move (.t 54),none,[]⟩]
def qe9:List VOper:=[
 ⟨some 55,.move (.t 5),none,[]⟩,
 ⟨some 56,.move (.t 11),none,[]⟩,
 ⟨some 57,.move (.t 7),none,[]⟩,
 ⟨some 58,.move (.t 10),none,[]⟩,
 ⟨some 59,.indexAddr 1 none (.t 57) (.t 58),none,[]⟩,
 ⟨some 60,.load false 1 (.t 59),none,[]⟩,
 ⟨some 61,.append 1 8 (.t 56) (.t 60),none,[]⟩,
 ⟨some 62,.buildSlice 1 (.sl .nil []) 1 [(0,.t 61)],none,[]⟩,
 ⟨some 63,.append 1 24 (.t 55) (.t 62),none,[]⟩,
 ⟨some 5,.move (.t 63),none,[]⟩]
def qfc:List VOper:=[
 ⟨some 39,.move (.t 10),none,[]⟩,
 ⟨some 40,.bin .add (.t 39) (.c (.d (.int .i64 1))),none,[]⟩,
 ⟨some 10,.move (.t 40),none,[]⟩]
def qlw:VCode:=(.seq (.seq (.region false 0 [0,1,5,6,7,8,9,10,38] qh1) (.cond (.t 38) .skip (.exit 2))) (.seq (.block 3 (.seq (.region false 0 [0,1,5,6,7,8,9,10,48] qfb) (.cond (.t 48) (.seq (.region false 0 [0,1,5,6,7,8,9,10,11] qfa) (.region false 0 [0,1,5,6,7,8,9,10] qe9)) .skip))) (.region false 0 [0,1,5,6,7,8,9,10] qfc)))
def qh4:List VOper:=[
 ⟨some 27,.move (.t 8),none,[]⟩,
 ⟨some 28,.bin .add (.t 27) (.c (.d (.int .i64 1))),none,[]⟩,
 ⟨some 8,.move (.t 28),none,[]⟩]
def qrn:VCode:=(.seq (.seq (.region false 0 [0,1,5,6,7,8,26] qh5) (.cond (.t 26) .skip (.exit 0))) (.seq (.block 1 (.seq (.region false 0 [0,1,5,6,7,8,9] qh3) (.seq (.region false 0 [0,1,5,6,7,8,9,10] qh2) (.block 2 (.loop [0,1,5,6,7,8,9,10] qlw))))) (.region false 0 [0,1,5,6,7,8] qh4)))
def qe8:List VOper:=[
 ⟨some 64,.move (.t 5),none,[]⟩,
 ⟨some 4,.move (.t 64),none,[]⟩]
def qz1:VFn:=⟨2,[.tmp 4],(.seq (.region false 0 [0,1] qia) (.seq (.region false 0 [0,1,5] qh9) (.seq (.region false 0 [0,1,5,6] qh8) (.seq (.region false 0 [0,1,5,6,7] qh7) (.seq (.seq (.region false 0 [0,1,5,6,7,8] qh6) (.block 0 (.loop [0,1,5,6,7,8] qrn))) (.seq (.region false 0 [4] qe8) .ret))))))⟩
def qnv:List VOper:=[
 ⟨some 2,.move (.c (.d (.int .i64 0))),none,[]⟩]
def qnu:List VOper:=[
 ⟨some 3,.move (.c (.d (.int .i64 0))),none,[]⟩]
def qnt:List VOper:=[
 ⟨some 4,.move (.c (.d (.int .i64 0))),none,[]⟩]
def qns:List VOper:=[
 ⟨some 5,.move (.t 4),none,[]⟩,
 ⟨some 6,.move (.t 0),none,[]⟩,
 ⟨some 7,.len false (.t 6),none,[]⟩,
 ⟨some 8,.bin .lss (.t 5) (.t 7),none,[]⟩]
def qnq:List VOper:=[
 ⟨some 11,.move (.t 3),none,[]⟩,
 ⟨some 12,.move (.t 0),none,[]⟩,
 ⟨some 13,.move (.t 4),none,[]⟩,
 ⟨some 14,.indexAddr 1 none (.t 12) (.t 13),none,[]⟩,
 ⟨some 15,.load false 1 (.t 14),none,[]⟩,
 ⟨some 16,.call true (.c (.fn 221 [])) [.t 11,.t 15],none,[]⟩,
 ⟨some 3,.move (.t 16),none,[]⟩]
def qnr:List VOper:=[
 ⟨some 9,.move (.t 4),none,[]⟩,
 ⟨some 10,.bin .add (.t 9) (.c (.d (.int .i64 1))),none,[]⟩,
 ⟨some 4,.move (.t 10),none,[]⟩]
def qrm:VCode:=(.seq (.seq (.region false 0 [0,3,4,8] qns) (.cond (.t 8) .skip (.exit 0))) (.seq (.block 1 (.region false 0 [0,3,4] qnq)) (.region false 0 [0,3,4] qnr)))
def qnp:List VOper:=[
 ⟨some 17,.move (.t 3),none,[]⟩,
 ⟨some 2,.move (.t 17),none,[]⟩]
def qz0:VFn:=⟨1,[.tmp 2],(.seq (.region false 0 [0] qnv) (.seq (.region false 0 [0,3] qnu) (.seq (.seq (.region false 0 [0,3,4] qnt) (.block 0 (.loop [0,3,4] qrm))) (.seq (.region false 0 [2] qnp) .ret))))⟩
def qh0:List VOper:=[
 ⟨some 4,.move (.c (.d (.sl .nil []))),none,[]⟩]
def qhZ:List VOper:=[
 ⟨some 9,.move (.t 0),none,[]⟩,
 ⟨some 10,.bin .eql (.t 9) (.c (.d (.int .i64 0))),none,[]⟩]
def qhY:List VOper:=[
 ⟨some 11,.buildSlice 1 (.int .i64 0) 0 [],none,[]⟩,
 ⟨some 12,.buildSlice 1 (.sl .nil []) 1 [(0,.t 11)],none,[]⟩,
 ⟨some 4,.move (.t 12),none,[]⟩]
def qhX:List VOper:=[
 ⟨some 13,.buildSlice 1 (.sl .nil []) 0 [],none,[]⟩,
 ⟨some 5,.move (.t 13),none,[]⟩]
def qhW:List VOper:=[
 ⟨some 6,.move (.c (.d (.int .i64 0))),none,[]⟩]
def qhV:List VOper:=[
 ⟨some 14,.move (.t 6),none,[]⟩,
 ⟨some 15,.move (.t 1),none,[]⟩,
 ⟨some 16,.bin .leq (.t 14) (.t 15),none,[]⟩]
def qhT:List VOper:=[
 ⟨some 19,.move (.t 0),none,[]⟩,
 ⟨some 20,.bin .sub (.t 19) (.c (.d (.int .i64 1))),none,[]⟩,
 ⟨some 21,.move (.t 1),none,[]⟩,
 ⟨some 22,.move (.t 6),none,[]⟩,
 ⟨some 23,.bin .sub (.t 21) (.t 22),none,[]⟩,
 ⟨some 24,.call true (.c (.fn 220 [])) [.t 20,.t 23],none,[]⟩,
 ⟨some 7,.move (.t 24),none,[]⟩]
def qhS:List VOper:=[
 ⟨some 8,.move (.c (.d (.int .i64 0))),none,[]⟩]
def qhR:List VOper:=[
 ⟨some 25,.move (.t 8),none,[]⟩,
 ⟨some 26,.move (.t 7),none,[]⟩,
 ⟨some 27,.len false (.t 26),none,[]⟩,
 ⟨some 28,.bin .lss (.t 25) (.t 27),none,[]⟩]
def qe6:List VOper:=[
 ⟨some 31,.move (.t 5),none,[]⟩,
 ⟨some 32,.move (.t 6),none,[]⟩,
 ⟨some 33,.buildSlice 1 (.int .i64 0) 1 [(0,.t 32)],none,[]⟩,
 ⟨some 34,.move (.t 7),none,[]⟩,
 ⟨some 35,.move (.t 8),none,[]⟩,
 ⟨some 36,.indexAddr 1 none (.t 34) (.t 35),none,[]⟩,
 ⟨some 37,.load false 1 (.t 36),none,[]⟩,
 ⟨some 38,.append 1 8 (.t 33) (.t 37),none,[]⟩,
 ⟨some 39,.buildSlice 1 (.sl .nil []) 1 [(0,.t 38)],none,[]⟩,
 ⟨some 40,.append 1 24 (.t 31) (.t 39),none,[]⟩,
 ⟨some 5,.move (.t 40),none,[]⟩]
def qe7:List VOper:=[
 ⟨some 29,.move (.t 8),none,[]⟩,
 ⟨some 30,.bin .add (.t 29) (.c (.d (.int .i64 1))),none,[]⟩,
 ⟨some 8,.move (.t 30),none,[]⟩]
def qoz:VCode:=(.seq (.seq (.region false 0 [0,1,5,6,7,8,28] qhR) (.cond (.t 28) .skip (.exit 2))) (.seq (.block 3 (.region false 0 [0,1,5,6,7,8] qe6)) (.region false 0 [0,1,5,6,7,8] qe7)))
def qhU:List VOper:=[
 ⟨some 17,.move (.t 6),none,[]⟩,
 ⟨some 18,.bin .add (.t 17) (.c (.d (.int .i64 1))),none,[]⟩,
 ⟨some 6,.move (.t 18),none,[]⟩]
def qrl:VCode:=(.seq (.seq (.region false 0 [0,1,5,6,16] qhV) (.cond (.t 16) .skip (.exit 0))) (.seq (.block 1 (.seq (.region false 0 [0,1,5,6,7] qhT) (.seq (.region false 0 [0,1,5,6,7,8] qhS) (.block 2 (.loop [0,1,5,6,7,8] qoz))))) (.region false 0 [0,1,5,6] qhU)))
def qe5:List VOper:=[
 ⟨some 41,.move (.t 5),none,[]⟩,
 ⟨some 4,.move (.t 41),none,[]⟩]
def qw6:VFn:=⟨2,[.tmp 4],(.seq (.region false 0 [0,1] qh0) (.seq (.seq (.region false 0 [0,1,10] qhZ) (.cond (.t 10) (.seq (.region false 0 [4] qhY) .ret) .skip)) (.seq (.region false 0 [0,1,5] qhX) (.seq (.seq (.region false 0 [0,1,5,6] qhW) (.block 0 (.loop [0,1,5,6] qrl))) (.seq (.region false 0 [4] qe5) .ret)))))⟩
def quA:List VOper:=[
 ⟨some 4,.move (.c (.d (.int .i64 0))),none,[]⟩]
def quz:List VOper:=[
 ⟨some 5,.move (.t 0),none,[]⟩,
 ⟨some 6,.move (.t 1),none,[]⟩,
 ⟨some 7,.bin .gtr (.t 5) (.t 6),none,[]⟩]
def quy:List VOper:=[
 ⟨some 8,.move (.t 0),none,[]⟩,
 ⟨some 4,.move (.t 8),none,[]⟩]
def qux:List VOper:=[
 ⟨some 9,.move (.t 1),none,[]⟩,
 ⟨some 4,.move (.t 9),none,[]⟩]
def qzZ:VFn:=⟨2,[.tmp 4],(.seq (.region false 0 [0,1] quA) (.seq (.seq (.region false 0 [0,1,7] quz) (.cond (.t 7) (.seq (.region false 0 [4] quy) .ret) .skip)) (.seq (.region false 0 [4] qux) .ret)))⟩
def quw:List VOper:=[
 ⟨some 2,.move (.c (.d (.bool false))),none,[]⟩]
def quv:List VOper:=[
 ⟨some 3,.move (.t 0),none,[]⟩,
 ⟨some 4,.len false (.t 3),none,[]⟩,
 ⟨some 5,.call true (.c (.fn 30 [])) [.t 4,.c (.d (.int .i64 1)),.c (.d (.int .i64 5))],none,[]⟩,
 ⟨some 6,.move (.t 5),none,[]⟩,
 ⟨some 7,.move (.t 0),some (6,true),[]⟩,
 ⟨some 8,.call false (.c (.fn 45 [])) [.t 7,.c (.fn 230 [])],some (6,true),[]⟩,
 ⟨some 9,.not (.t 8),some (6,true),[]⟩,
 ⟨some 10,.pick (.t 6) (.t 9) (.c (.d (.bool false))),none,[]⟩,
 ⟨some 2,.move (.t 10),none,[]⟩]
def qzY:VFn:=⟨1,[.tmp 2],(.seq (.region false 0 [0] quw) (.seq (.region false 0 [2] quv) .ret))⟩
def qno:List VOper:=[
 ⟨some 2,.move (.c (.d (.int .i64 0))),none,[]⟩]
def qnn:List VOper:=[
 ⟨some 5,.move (.t 0),none,[]⟩,
 ⟨some 6,.len false (.t 5),none,[]⟩,
 ⟨some 7,.bin .lss (.t 6) (.c (.d (.int .i64 1))),none,[]⟩]
def qnm:List VOper:=[
 ⟨some 8,.fail,none,[]⟩,
 ⟨none,.fail,none,[]⟩]
def qnl:List VOper:=[
 ⟨some 9,.move (.t 0),none,[]⟩,
 ⟨some 10,.indexAddr 1 none (.t 9) (.c (.d (.int .i64 0))),none,[]⟩,
 ⟨some 11,.load false 1 (.t 10),none,[]⟩,
 ⟨some 3,.move (.t 11),none,[]⟩]
def qnk:List VOper:=[
 ⟨some 4,.move (.c (.d (.int .i64 1))),none,[]⟩]
def qnj:List VOper:=[
 ⟨some 12,.move (.t 4),none,[]⟩,
 ⟨some 13,.move (.t 0),none,[]⟩,
 ⟨some 14,.len false (.t 13),none,[]⟩,
 ⟨some 15,.bin .lss (.t 12) (.t 14),none,[]⟩]
def qnh:List VOper:=[
 ⟨some 18,.move (.t 3),none,[]⟩,
 ⟨some 19,.move (.t 0),none,[]⟩,
 ⟨some 20,.move (.t 4),none,[]⟩,
 ⟨some 21,.indexAddr 1 none (.t 19) (.t 20),none,[]⟩,
 ⟨some 22,.load false 1 (.t 21),none,[]⟩,
 ⟨some 23,.max (.t 18) (.t 22),none,[]⟩,
 ⟨some 3,.move (.t 23),none,[]⟩]
def qni:List VOper:=[
 ⟨some 16,.move (.t 4),none,[]⟩,
 ⟨some 17,.bin .add (.t 16) (.c (.d (.int .i64 1))),none,[]⟩,
 ⟨some 4,.move (.t 17),none,[]⟩]
def qrk:VCode:=(.seq (.seq (.region false 0 [0,3,4,15] qnj) (.cond (.t 15) .skip (.exit 0))) (.seq (.block 1 (.region false 0 [0,3,4] qnh)) (.region false 0 [0,3,4] qni)))
def qng:List VOper:=[
 ⟨some 24,.move (.t 3),none,[]⟩,
 ⟨some 2,.move (.t 24),none,[]⟩]
def qzX:VFn:=⟨1,[.tmp 2],(.seq (.region false 0 [0] qno) (.seq (.seq (.region false 0 [0,7] qnn) (.cond (.t 7) (.region false 0 [0] qnm) .skip)) (.seq (.region false 0 [0,3] qnl) (.seq (.seq (.region false 0 [0,3,4] qnk) (.block 0 (.loop [0,3,4] qrk))) (.seq (.region false 0 [2] qng) .ret)))))⟩
def qhQ:List VOper:=[
 ⟨some 4,.move (.c (.d (.sl .nil []))),none,[]⟩]
def qhP:List VOper:=[
 ⟨some 9,.move (.t 0),none,[]⟩,
 ⟨some 10,.bin .eql (.t 9) (.c (.d (.int .i64 0))),none,[]⟩]
def qhO:List VOper:=[
 ⟨some 11,.buildSlice 1 (.int .i64 0) 0 [],none,[]⟩,
 ⟨some 12,.buildSlice 1 (.sl .nil []) 1 [(0,.t 11)],none,[]⟩,
 ⟨some 4,.move (.t 12),none,[]⟩]
def qhN:List VOper:=[
 ⟨some 13,.buildSlice 1 (.sl .nil []) 0 [],none,[]⟩,
 ⟨some 5,.move (.t 13),none,[]⟩]
def qhM:List VOper:=[
 ⟨some 6,.move (.c (.d (.int .i64 0))),none,[]⟩]
def qhL:List VOper:=[
 ⟨some 14,.move (.t 6),none,[]⟩,
 ⟨some 15,.move (.t 1),none,[]⟩,
 ⟨some 16,.bin .leq (.t 14) (.t 15),none,[]⟩]
def qhJ:List VOper:=[
 ⟨some 19,.move (.t 0),none,[]⟩,
 ⟨some 20,.bin .sub (.t 19) (.c (.d (.int .i64 1))),none,[]⟩,
 ⟨some 21,.move (.t 1),none,[]⟩,
 ⟨some 22,.move (.t 6),none,[]⟩,
 ⟨some 23,.bin .sub (.t 21) (.t 22),none,[]⟩,
 ⟨some 24,.call true (.c (.fn 224 [])) [.t 20,.t 23],none,[]⟩,
 ⟨some 25,.len false (.t 24),none,[]⟩,
 ⟨some 26,.move (.c (.d (.int .i64 0))),none,[]⟩]
def qhI:List VOper:=[
 ⟨some 27,.bin .lss (.t 26) (.t 25),none,[]⟩]
def qhH:List VOper:=[
 ⟨some 28,.indexAddr 1 none (.t 24) (.t 26),none,[]⟩,
 ⟨some 29,.load false 1 (.t 28),none,[]⟩,
 ⟨some 8,.move (.t 29),none,[]⟩]
def qe4:List VOper:=[
 ⟨some 30,.move (.t 5),none,[]⟩,
 ⟨some 31,.move (.t 6),none,[]⟩,
 ⟨some 32,.buildSlice 1 (.int .i64 0) 1 [(0,.t 31)],none,[]⟩,
 ⟨some 33,.move (.t 8),none,[]⟩,
 ⟨some 34,.append 1 8 (.t 32) (.t 33),none,[]⟩,
 ⟨some 35,.buildSlice 1 (.sl .nil []) 1 [(0,.t 34)],none,[]⟩,
 ⟨some 36,.append 1 24 (.t 30) (.t 35),none,[]⟩,
 ⟨some 5,.move (.t 36),none,[]⟩]
def qe3:List VOper:=[
 ⟨some 37,.bin .add (.t 26) (.c (.d (.int .i64 1))),none,[]⟩,
 ⟨some 26,.move (.t 37),none,[]⟩]
def qoy:VCode:=(.seq (.region false 0 [0,1,5,6,24,25,26,27] qhI) (.seq (.cond (.t 27) .skip (.exit 2)) (.seq (.block 3 (.seq (.region false 0 [0,1,5,6,8,24,25,26] qhH) (.region false 0 [0,1,5,6,24,25,26] qe4))) (.region false 0 [0,1,5,6,24,25,26] qe3))))
def qhK:List VOper:=[
 ⟨some 17,.move (.t 6),none,[]⟩,
 ⟨some 18,.bin .add (.t 17) (.c (.d (.int .i64 1))),none,[]⟩,
 ⟨some 6,.move (.t 18),none,[]⟩]
def qrj:VCode:=(.seq (.seq (.region false 0 [0,1,5,6,16] qhL) (.cond (.t 16) .skip (.exit 0))) (.seq (.block 1 (.seq (.region false 0 [0,1,5,6,24,25,26] qhJ) (.block 2 (.loop [0,1,5,6,24,25,26] qoy)))) (.region false 0 [0,1,5,6] qhK)))
def qe2:List VOper:=[
 ⟨some 38,.move (.t 5),none,[]⟩,
 ⟨some 4,.move (.t 38),none,[]⟩]
def qw5:VFn:=⟨2,[.tmp 4],(.seq (.region false 0 [0,1] qhQ) (.seq (.seq (.region false 0 [0,1,10] qhP) (.cond (.t 10) (.seq (.region false 0 [4] qhO) .ret) .skip)) (.seq (.region false 0 [0,1,5] qhN) (.seq (.seq (.region false 0 [0,1,5,6] qhM) (.block 0 (.loop [0,1,5,6] qrj))) (.seq (.region false 0 [4] qe2) .ret)))))⟩
def qyv:List VOper:=[
 ⟨some 3,.move (.c (.d (.bool false))),none,[]⟩]
def qyu:List VOper:=[
 ⟨some 4,.move (.t 0),none,[]⟩,
 ⟨some 5,.load false 1 (.t 1),none,[]⟩,
 ⟨some 6,.call true (.c (.fn 51 [])) [.t 4,.t 5],none,[]⟩,
 ⟨some 3,.move (.t 6),none,[]⟩]
def qBG:VFn:=⟨2,[.tmp 3],(.seq (.region false 0 [0,1] qyv) (.seq (.region false 0 [3] qyu) .ret))⟩
def quu:List VOper:=[
 ⟨some 4,.move (.c (.d (.bool false))),none,[]⟩]
def qut:List VOper:=[
 ⟨some 5,.move (.t 0),none,[]⟩,
 ⟨some 6,.move (.t 1),none,[]⟩,
 ⟨some 7,.call false (.c (.fn 228 [])) [.t 5,.t 6],none,[]⟩,
 ⟨some 8,.bin .geq (.t 7) (.c (.d (.int .i64 0))),none,[]⟩,
 ⟨some 4,.move (.t 8),none,[]⟩]
def qzW:VFn:=⟨2,[.tmp 4],(.seq (.region false 0 [0,1] quu) (.seq (.region false 0 [4] qut) .ret))⟩
def qkP:List VOper:=[
 ⟨some 4,.move (.c (.d (.int .i64 0))),none,[]⟩]
def qkO:List VOper:=[
 ⟨some 6,.move (.t 0),none,[]⟩,
 ⟨some 7,.len false (.t 6),none,[]⟩,
 ⟨some 8,.move (.c (.d (.int .i64 0))),none,[]⟩]
def qkN:List VOper:=[
 ⟨some 9,.bin .lss (.t 8) (.t 7),none,[]⟩]
def qkM:List VOper:=[
 ⟨some 10,.move (.t 8),none,[]⟩,
 ⟨some 5,.move (.t 10),none,[]⟩]
def qkL:List VOper:=[
 ⟨some 11,.move (.t 1),none,[]⟩,
 ⟨some 12,.move (.t 0),none,[]⟩,
 ⟨some 13,.move (.t 5),none,[]⟩,
 ⟨some 14,.indexAddr 1 none (.t 12) (.t 13),none,[]⟩,
 ⟨some 15,.load false 1 (.t 14),none,[]⟩,
 ⟨some 16,.call false (.t 11) [.t 15],none,[]⟩]
def qkK:List VOper:=[
 ⟨some 17,.move (.t 5),none,[]⟩,
 ⟨some 4,.move (.t 17),none,[]⟩]
def qkJ:List VOper:=[
 ⟨some 18,.bin .add (.t 8) (.c (.d (.int .i64 1))),none,[]⟩,
 ⟨some 8,.move (.t 18),none,[]⟩]
def qox:VCode:=(.seq (.region false 0 [0,1,7,8,9] qkN) (.seq (.cond (.t 9) .skip (.exit 0)) (.seq (.block 1 (.seq (.region false 0 [0,1,5,7,8] qkM) (.seq (.region false 0 [0,1,5,7,8,16] qkL) (.cond (.t 16) (.seq (.region false 0 [4] qkK) .ret) .skip)))) (.region false 0 [0,1,7,8] qkJ))))
def qkI:List VOper:=[
 ⟨some 4,.move (.c (.d (.int .i64 (-1)))),none,[]⟩]
def qzV:VFn:=⟨2,[.tmp 4],(.seq (.region false 0 [0,1] qkP) (.seq (.seq (.region false 0 [0,1,7,8] qkO) (.block 0 (.loop [0,1,7,8] qox))) (.seq (.region false 0 [4] qkI) .ret)))⟩
def qyt:List VOper:=[
 ⟨some 2,.move (.c (.d (.bool false))),none,[]⟩]
def qys:List VOper:=[
 ⟨some 3,.move (.t 0),none,[]⟩,
 ⟨some 4,.call true (.c (.fn 30 [])) [.t 3,.c (.d (.int .i64 1)),.c (.d (.int .i64 4))],none,[]⟩,
 ⟨some 5,.not (.t 4),none,[]⟩,
 ⟨some 2,.move (.t 5),none,[]⟩]
def qBF:VFn:=⟨1,[.tmp 2],(.seq (.region false 0 [0] qyt) (.seq (.region false 0 [2] qys) .ret))⟩
def qqD:List VOper:=[
 ⟨some 2,.move (.c (.d (.sl .nil []))),none,[]⟩]
def qqC:List VOper:=[
 ⟨some 5,.buildSlice 1 (.int .i64 0) 0 [],none,[]⟩,
 ⟨some 3,.move (.t 5),none,[]⟩]
def qqB:List VOper:=[
 ⟨some 4,.move (.c (.d (.int .i64 0))),none,[]⟩]
def qqA:List VOper:=[
 ⟨some 6,.move (.t 4),none,[]⟩,
 ⟨some 7,.move (.t 0),none,[]⟩,
 ⟨some 8,.call false (.c (.fn 159 [])) [.t 7,.c (.d (.int .i64 3))],none,[]⟩,
 ⟨some 9,.bin .add (.c (.d (.int .i64 1))) (.t 8),none,[]⟩,
 ⟨some 10,.bin .lss (.t 6) (.t 9),none,[]⟩]
def qyq:List VOper:=[
 ⟨some 13,.move (.t 3),none,[]⟩,
 ⟨some 14,.move (.t 0),none,[]⟩,
 ⟨some 15,.call false (.c (.fn 159 [])) [.t 14,.c (.d (.int .i64 3))],none,[]⟩,
 ⟨some 16,.bin .add (.c (.d (.int .i64 1))) (.t 15),none,[]⟩,
 ⟨some 17,.buildSlice 1 (.int .i64 0) 1 [(0,.t 16)],none,[]⟩,
 ⟨some 18,.append 1 8 (.t 13) (.t 17),none,[]⟩,
 ⟨some 3,.move (.t 18),none,[]⟩]
def qyr:List VOper:=[
 ⟨some 11,.move (.t 4),none,[]⟩,
 ⟨some 12,.bin .add (.t 11) (.c (.d (.int .i64 1))),none,[]⟩,
 ⟨some 4,.move (.t 12),none,[]⟩]
def qlv:VCode:=(.seq (.seq (.region false 0 [0,3,4,10] qqA) (.cond (.t 10) .skip (.exit 0))) (.seq (.block 1 (.region false 0 [0,3,4] qyq)) (.region false 0 [0,3,4] qyr)))
def qqz:List VOper:=[
 ⟨some 19,.move (.t 0),none,[]⟩,
 ⟨some 20,.call false (.c (.fn 162 [])) [.t 19,.c (.d (.int .i64 12))],none,[]⟩]
def qqy:List VOper:=[
 ⟨some 21,.move (.t 3),none,[]⟩,
 ⟨some 22,.move (.t 0),none,[]⟩,
 ⟨some 23,.buildSlice 1 (.int .i64 0) 4 [(0,.c (.d (.int .i64 0))),(1,.c (.d (.int .i64 4))),(2,.c (.d (.int .i64 5))),(3,.c (.d (.int .i64 (-1))))],none,[]⟩,
 ⟨some 24,.call false (.c (.fn 160 [])) [.t 22,.t 23],none,[]⟩,
 ⟨some 25,.buildSlice 1 (.int .i64 0) 1 [(0,.t 24)],none,[]⟩,
 ⟨some 26,.append 1 8 (.t 21) (.t 25),none,[]⟩,
 ⟨some 2,.move (.t 26),none,[]⟩]
def qqx:List VOper:=[
 ⟨some 27,.move (.t 3),none,[]⟩,
 ⟨some 2,.move (.t 27),none,[]⟩]
def qyk:VFn:=⟨1,[.tmp 2],(.seq (.region false 0 [0] qqD) (.seq (.region false 0 [0,3] qqC) (.seq (.seq (.region false 0 [0,3,4] qqB) (.block 0 (.loop [0,3,4] qlv))) (.seq (.seq (.region false 0 [0,3,20] qqz) (.cond (.t 20) (.seq (.region false 0 [2] qqy) .ret) .skip)) (.seq (.region false 0 [2] qqx) .ret)))))⟩
def look:List (Nat×VFn)->Nat->Option VFn
 | [],_=>none
 |(k,v)::r,n=>if n=k then some v else look r n
def qxT:List (Nat×VFn):=[(30,v30),(31,v31),(42,v42),(43,v43),(45,v45),(46,v46),(47,v47),(48,v48),(50,v50),(51,v51),(133,qBP),(156,qBO),(159,qBN),(160,qBM),(162,qym),(165,qz6),(188,qw7),(203,qBL),(205,qz5),(206,qBK),(207,qrJ),(208,qt1),(209,qs4),(210,qj5),(211,qBJ),(212,qz4),(213,qz3),(214,qyl),(215,qBI),(216,qBH),(217,qz2),(218,qz1),(219,qz0),(220,qw6),(221,qzZ),(222,qzY),(223,qzX),(224,qw5),(226,qBG),(227,qzW),(228,qzV),(230,qBF),(231,qyk)]
def qAc:List (Nat×SFn):=[]
def qEd:List (Nat×Nat):=[(210,0)]
def qAA:List (Nat×Nat)->Nat->Option Nat
 | [],_=>none
 |(k,v)::r,n=>if n=k then some v else qAA r n
def qxu:List (Nat×(List DV->Option DV)):=[(225,qef)]
def E:Env:=⟨look qxT,fun k=>(qjC qxu k).map qs6,qu8 qAc,qAA qEd⟩
theorem qGz:E.code 30=some v30:=by kernel_rfl
theorem qGy:E.code 31=some v31:=by kernel_rfl
theorem qGx:E.code 42=some v42:=by kernel_rfl
theorem qGw:E.code 43=some v43:=by kernel_rfl
theorem qGv:E.code 45=some v45:=by kernel_rfl
theorem qGu:E.code 46=some v46:=by kernel_rfl
theorem qGt:E.code 47=some v47:=by kernel_rfl
theorem qGs:E.code 48=some v48:=by kernel_rfl
theorem qGr:E.code 50=some v50:=by kernel_rfl
theorem qGq:E.code 51=some v51:=by kernel_rfl
theorem qET:E.code 133=some qBP:=by kernel_rfl
theorem qES:E.code 156=some qBO:=by kernel_rfl
theorem qER:E.code 159=some qBN:=by kernel_rfl
theorem qEQ:E.code 160=some qBM:=by kernel_rfl
theorem qEP:E.code 162=some qym:=by kernel_rfl
theorem qEO:E.code 165=some qz6:=by kernel_rfl
theorem qEN:E.code 188=some qw7:=by kernel_rfl
theorem qEM:E.code 203=some qBL:=by kernel_rfl
theorem qEL:E.code 205=some qz5:=by kernel_rfl
theorem qEK:E.code 206=some qBK:=by kernel_rfl
theorem qEJ:E.code 207=some qrJ:=by kernel_rfl
theorem qEI:E.code 208=some qt1:=by kernel_rfl
theorem qEH:E.code 209=some qs4:=by kernel_rfl
theorem qEG:E.code 210=some qj5:=by kernel_rfl
theorem qEF:E.code 211=some qBJ:=by kernel_rfl
theorem qEE:E.code 212=some qz4:=by kernel_rfl
theorem qED:E.code 213=some qz3:=by kernel_rfl
theorem qEC:E.code 214=some qyl:=by kernel_rfl
theorem qEB:E.code 215=some qBI:=by kernel_rfl
theorem qEA:E.code 216=some qBH:=by kernel_rfl
theorem qEz:E.code 217=some qz2:=by kernel_rfl
theorem qEy:E.code 218=some qz1:=by kernel_rfl
theorem qEx:E.code 219=some qz0:=by kernel_rfl
theorem qEw:E.code 220=some qw6:=by kernel_rfl
theorem qEv:E.code 221=some qzZ:=by kernel_rfl
theorem qEu:E.code 222=some qzY:=by kernel_rfl
theorem qEt:E.code 223=some qzX:=by kernel_rfl
theorem qEs:E.code 224=some qw5:=by kernel_rfl
theorem qEr:E.code 226=some qBG:=by kernel_rfl
theorem qEq:E.code 227=some qzW:=by kernel_rfl
theorem qEp:E.code 228=some qzV:=by kernel_rfl
theorem qEo:E.code 230=some qBF:=by kernel_rfl
theorem qEn:E.code 231=some qyk:=by kernel_rfl
end Go.Proofs.Ytpcoohnjllclnaa.VS
