/- The code of the functions that the laws reach, for the evaluator. -/
import Derived.Test.YtidlpcgcolcfgaaNat0
import Derived.KernelRfl
namespace Go.Proofs.Ytidlpcgcolcfgaa.VS
set_option linter.unusedVariables false
/-! loop.example/g00461/spec.TermSame -/
def r3_0 : List VOper := [
  ⟨some 2, .box 0 (.t 0), none, []⟩,
  ⟨some 3, .box 1 (.t 1), none, []⟩,
  ⟨some 4, .move (.c (.d (.bool false))), none, []⟩]
def r3_1 : List VOper := [
  ⟨some 6, .fieldAddr 0 (.t 2), none, []⟩,
  ⟨some 7, .load false 1 (.t 6), none, []⟩,
  ⟨some 8, .fieldAddr 0 (.t 3), none, []⟩,
  ⟨some 9, .load false 1 (.t 8), none, []⟩,
  ⟨some 10, .bin .neq (.t 7) (.t 9), none, []⟩,
  ⟨some 11, .move (.t 10), none, []⟩,
  ⟨some 12, .fieldAddr 1 (.t 2), some (11, false), []⟩,
  ⟨some 13, .load false 1 (.t 12), some (11, false), []⟩,
  ⟨some 14, .fieldAddr 1 (.t 3), some (11, false), []⟩,
  ⟨some 15, .load false 1 (.t 14), some (11, false), []⟩,
  ⟨some 16, .bin .neq (.t 13) (.t 15), some (11, false), []⟩,
  ⟨some 17, .pick (.t 11) (.c (.d (.bool true))) (.t 16), none, []⟩,
  ⟨some 18, .move (.t 17), none, []⟩,
  ⟨some 19, .fieldAddr 2 (.t 2), some (18, false), []⟩,
  ⟨some 20, .load false 1 (.t 19), some (18, false), []⟩,
  ⟨some 21, .len false (.t 20), some (18, false), []⟩,
  ⟨some 22, .fieldAddr 2 (.t 3), some (18, false), []⟩,
  ⟨some 23, .load false 1 (.t 22), some (18, false), []⟩,
  ⟨some 24, .len false (.t 23), some (18, false), []⟩,
  ⟨some 25, .bin .neq (.t 21) (.t 24), some (18, false), []⟩,
  ⟨some 26, .pick (.t 18) (.c (.d (.bool true))) (.t 25), none, []⟩]
def r3_2 : List VOper := [
  ⟨some 4, .move (.c (.d (.bool false))), none, []⟩]
def r3_3 : List VOper := [
  ⟨some 5, .move (.c (.d (.int .i64 0))), none, []⟩]
def r3_4 : List VOper := [
  ⟨some 27, .move (.t 5), none, []⟩,
  ⟨some 28, .fieldAddr 2 (.t 2), none, []⟩,
  ⟨some 29, .load false 1 (.t 28), none, []⟩,
  ⟨some 30, .len false (.t 29), none, []⟩,
  ⟨some 31, .bin .lss (.t 27) (.t 30), none, []⟩]
def r3_6 : List VOper := [
  ⟨some 34, .fieldAddr 2 (.t 2), none, []⟩,
  ⟨some 35, .load false 1 (.t 34), none, [0]⟩,
  ⟨some 36, .move (.t 5), none, []⟩,
  ⟨some 37, .indexAddr 3 none (.t 35) (.t 36), none, [1, 2]⟩,
  ⟨some 38, .load true 3 (.t 37), none, [3]⟩,
  ⟨some 39, .fieldAddr 2 (.t 3), none, []⟩,
  ⟨some 40, .load false 1 (.t 39), none, [5]⟩,
  ⟨some 41, .move (.t 5), none, []⟩,
  ⟨some 42, .indexAddr 3 none (.t 40) (.t 41), none, [6, 7]⟩,
  ⟨some 43, .load true 3 (.t 42), none, [8]⟩,
  ⟨some 44, .call true (.c (.fn 3 [])) [.t 38, .t 43], none, [4, 9]⟩,
  ⟨some 45, .not (.t 44), none, [10]⟩]
def r3_7 : List VOper := [
  ⟨some 4, .move (.c (.d (.bool false))), none, []⟩]
def r3_5 : List VOper := [
  ⟨some 32, .move (.t 5), none, []⟩,
  ⟨some 33, .bin .add (.t 32) (.c (.d (.int .i64 1))), none, []⟩,
  ⟨some 5, .move (.t 33), none, []⟩]
def b3_0 : VCode := (.seq (.seq (.region false 0 [2, 3, 5, 31] r3_4) (.cond (.t 31) .skip (.exit 0))) (.seq (.block 1 (.seq (.region true 0 [2, 3, 5, 45] r3_6) (.cond (.t 45) (.seq (.region false 0 [4] r3_7) .ret) .skip))) (.region false 0 [2, 3, 5] r3_5)))
def r3_8 : List VOper := [
  ⟨some 4, .move (.c (.d (.bool true))), none, []⟩]
def v3 : VFn := ⟨2, [.tmp 4], (.seq (.region false 2 [2, 3] r3_0) (.seq (.seq (.region false 0 [2, 3, 26] r3_1) (.cond (.t 26) (.seq (.region false 0 [4] r3_2) .ret) .skip)) (.seq (.seq (.region false 0 [2, 3, 5] r3_3) (.block 0 (.loop [2, 3, 5] b3_0))) (.seq (.region false 0 [4] r3_8) .ret))))⟩
/-! loop.example/g00461/impl.Parts -/
def r23_0 : List VOper := [
  ⟨some 1, .box 0 (.t 0), none, []⟩,
  ⟨some 2, .move (.c (.d (.int .i64 0))), none, []⟩]
def r23_1 : List VOper := [
  ⟨some 3, .alloc 0 [.int .i64 0], none, []⟩,
  ⟨none, .store false 1 (.t 3) (.c (.d (.int .i64 0))), none, []⟩]
def r23_2 : List VOper := [
  ⟨some 4, .load true 3 (.t 1), none, []⟩,
  ⟨some 5, .makeFunc 24 [.t 3], none, []⟩,
  ⟨some 6, .call false (.c (.fn 25 [])) [.t 4, .t 5], none, []⟩]
def r23_3 : List VOper := [
  ⟨some 7, .load false 1 (.t 3), none, []⟩,
  ⟨some 2, .move (.t 7), none, []⟩]
def v23 : VFn := ⟨1, [.tmp 2], (.seq (.region false 1 [1] r23_0) (.seq (.region false 1 [1, 3] r23_1) (.seq (.region false 0 [3] r23_2) (.seq (.region false 0 [2] r23_3) .ret))))⟩
/-! loop.example/g00461/impl.Parts$1 -/
def r24_0 : List VOper := [
  ⟨some 2, .box 0 (.t 0), none, []⟩]
def r24_1 : List VOper := [
  ⟨some 3, .load false 1 (.t 1), none, []⟩,
  ⟨some 4, .bin .add (.t 3) (.c (.d (.int .i64 1))), none, []⟩,
  ⟨none, .store false 1 (.t 1) (.t 4), none, []⟩]
def v24 : VFn := ⟨2, [], (.seq (.region false 1 [1] r24_0) (.region false 0 [] r24_1))⟩
/-! loop.example/g00461/impl.each -/
def r25_0 : List VOper := [
  ⟨some 2, .box 0 (.t 0), none, []⟩]
def r25_1 : List VOper := [
  ⟨some 6, .move (.t 1), none, []⟩,
  ⟨some 7, .load true 3 (.t 2), none, []⟩,
  ⟨some 8, .call false (.t 6) [.t 7], none, []⟩]
def r25_2 : List VOper := [
  ⟨some 9, .fieldAddr 2 (.t 2), none, []⟩,
  ⟨some 10, .load false 1 (.t 9), none, []⟩,
  ⟨some 11, .len false (.t 10), none, []⟩,
  ⟨some 12, .move (.c (.d (.int .i64 0))), none, []⟩]
def r25_3 : List VOper := [
  ⟨some 13, .bin .lss (.t 12) (.t 11), none, []⟩]
def r25_4 : List VOper := [
  ⟨some 14, .indexAddr 3 none (.t 10) (.t 12), none, []⟩,
  ⟨some 15, .load true 3 (.t 14), none, []⟩,
  ⟨some 5, .alloc 0 [.int .i64 0, .int .i64 0, .sl .nil []], none, []⟩,
  ⟨none, .store false 3 (.t 5) (.t 15), none, []⟩]
def r25_5 : List VOper := [
  ⟨some 16, .load true 3 (.t 5), none, []⟩,
  ⟨some 17, .move (.t 1), none, []⟩,
  ⟨some 18, .call false (.c (.fn 25 [])) [.t 16, .t 17], none, []⟩]
def r25_6 : List VOper := [
  ⟨some 19, .bin .add (.t 12) (.c (.d (.int .i64 1))), none, []⟩,
  ⟨some 12, .move (.t 19), none, []⟩]
def b25_0 : VCode := (.seq (.region false 0 [1, 10, 11, 12, 13] r25_3) (.seq (.cond (.t 13) .skip (.exit 0)) (.seq (.block 1 (.seq (.region false 1 [1, 5, 10, 11, 12] r25_4) (.region false 0 [1, 10, 11, 12] r25_5))) (.region false 0 [1, 10, 11, 12] r25_6))))
def v25 : VFn := ⟨2, [], (.seq (.region false 1 [1, 2] r25_0) (.seq (.region false 0 [1, 2] r25_1) (.seq (.region false 0 [1, 10, 11, 12] r25_2) (.block 0 (.loop [1, 10, 11, 12] b25_0)))))⟩
/-! loop.example/g00461/spec.l1In -/
def r31_0 : List VOper := [
  ⟨some 6, .move (.c (.d (.bool false))), none, []⟩]
def r31_1 : List VOper := [
  ⟨some 7, .move (.t 0), none, []⟩,
  ⟨some 8, .move (.t 1), none, []⟩,
  ⟨some 9, .bin .geq (.t 7) (.t 8), none, []⟩,
  ⟨some 10, .move (.t 9), none, []⟩,
  ⟨some 11, .move (.t 0), some (10, true), []⟩,
  ⟨some 12, .move (.t 2), some (10, true), []⟩,
  ⟨some 13, .bin .leq (.t 11) (.t 12), some (10, true), []⟩,
  ⟨some 14, .pick (.t 10) (.t 13) (.c (.d (.bool false))), none, []⟩,
  ⟨some 6, .move (.t 14), none, []⟩]
def v31 : VFn := ⟨3, [.tmp 6], (.seq (.region false 0 [0, 1, 2] r31_0) (.seq (.region false 0 [6] r31_1) .ret))⟩
/-! loop.example/g00461/spec.Blind -/
def r33_0 : List VOper := [
  ⟨some 4, .move (.c (.d (.bool false))), none, []⟩]
def r33_1 : List VOper := [
  ⟨some 5, .move (.t 1), none, []⟩,
  ⟨some 6, .move (.t 0), none, []⟩,
  ⟨some 7, .len false (.t 6), none, []⟩,
  ⟨some 8, .bin .sub (.t 7) (.c (.d (.int .i64 1))), none, []⟩,
  ⟨some 9, .call true (.c (.fn 31 [])) [.t 5, .c (.d (.int .i64 0)), .t 8], none, []⟩,
  ⟨some 10, .move (.t 9), none, []⟩,
  ⟨some 11, .move (.t 0), some (10, true), []⟩,
  ⟨some 12, .move (.t 1), some (10, true), []⟩,
  ⟨some 13, .indexAddr 3 none (.t 11) (.t 12), some (10, true), []⟩,
  ⟨some 14, .fieldAddr 2 (.t 13), some (10, true), []⟩,
  ⟨some 15, .load false 1 (.t 14), some (10, true), []⟩,
  ⟨some 16, .pick (.t 10) (.t 15) (.c (.d (.bool false))), none, []⟩,
  ⟨some 4, .move (.t 16), none, []⟩]
def v33 : VFn := ⟨2, [.tmp 4], (.seq (.region false 0 [0, 1] r33_0) (.seq (.region false 0 [4] r33_1) .ret))⟩
/-! slices.IndexFunc[[]int,int] -/
def r47_0 : List VOper := [
  ⟨some 4, .move (.c (.d (.int .i64 0))), none, []⟩]
def r47_1 : List VOper := [
  ⟨some 6, .move (.t 0), none, []⟩,
  ⟨some 7, .len false (.t 6), none, []⟩,
  ⟨some 8, .move (.c (.d (.int .i64 0))), none, []⟩]
def r47_2 : List VOper := [
  ⟨some 9, .bin .lss (.t 8) (.t 7), none, []⟩]
def r47_3 : List VOper := [
  ⟨some 10, .move (.t 8), none, []⟩,
  ⟨some 5, .move (.t 10), none, []⟩]
def r47_4 : List VOper := [
  ⟨some 11, .move (.t 1), none, []⟩,
  ⟨some 12, .move (.t 0), none, []⟩,
  ⟨some 13, .move (.t 5), none, []⟩,
  ⟨some 14, .indexAddr 1 none (.t 12) (.t 13), none, []⟩,
  ⟨some 15, .load false 1 (.t 14), none, []⟩,
  ⟨some 16, .call false (.t 11) [.t 15], none, []⟩]
def r47_5 : List VOper := [
  ⟨some 17, .move (.t 5), none, []⟩,
  ⟨some 4, .move (.t 17), none, []⟩]
def r47_6 : List VOper := [
  ⟨some 18, .bin .add (.t 8) (.c (.d (.int .i64 1))), none, []⟩,
  ⟨some 8, .move (.t 18), none, []⟩]
def b47_0 : VCode := (.seq (.region false 0 [0, 1, 7, 8, 9] r47_2) (.seq (.cond (.t 9) .skip (.exit 0)) (.seq (.block 1 (.seq (.region false 0 [0, 1, 5, 7, 8] r47_3) (.seq (.region false 0 [0, 1, 5, 7, 8, 16] r47_4) (.cond (.t 16) (.seq (.region false 0 [4] r47_5) .ret) .skip)))) (.region false 0 [0, 1, 7, 8] r47_6))))
def r47_7 : List VOper := [
  ⟨some 4, .move (.c (.d (.int .i64 (-1)))), none, []⟩]
def v47 : VFn := ⟨2, [.tmp 4], (.seq (.region false 0 [0, 1] r47_0) (.seq (.seq (.region false 0 [0, 1, 7, 8] r47_1) (.block 0 (.loop [0, 1, 7, 8] b47_0))) (.seq (.region false 0 [4] r47_7) .ret)))⟩
/-! loop.example/g00461/spec.NumIn -/
def r53_0 : List VOper := [
  ⟨some 4, .move (.c (.d (.bool false))), none, []⟩]
def r53_1 : List VOper := [
  ⟨some 5, .move (.c (.d (.int .i64 0))), none, []⟩]
def r53_2 : List VOper := [
  ⟨some 6, .move (.t 5), none, []⟩,
  ⟨some 7, .move (.t 0), none, []⟩,
  ⟨some 8, .len false (.t 7), none, []⟩,
  ⟨some 9, .bin .lss (.t 6) (.t 8), none, []⟩]
def r53_4 : List VOper := [
  ⟨some 12, .move (.t 0), none, []⟩,
  ⟨some 13, .move (.t 5), none, []⟩,
  ⟨some 14, .indexAddr 1 none (.t 12) (.t 13), none, []⟩,
  ⟨some 15, .load false 1 (.t 14), none, []⟩,
  ⟨some 16, .move (.t 1), none, []⟩,
  ⟨some 17, .bin .eql (.t 15) (.t 16), none, []⟩]
def r53_5 : List VOper := [
  ⟨some 4, .move (.c (.d (.bool true))), none, []⟩]
def r53_3 : List VOper := [
  ⟨some 10, .move (.t 5), none, []⟩,
  ⟨some 11, .bin .add (.t 10) (.c (.d (.int .i64 1))), none, []⟩,
  ⟨some 5, .move (.t 11), none, []⟩]
def b53_0 : VCode := (.seq (.seq (.region false 0 [0, 1, 5, 9] r53_2) (.cond (.t 9) .skip (.exit 0))) (.seq (.block 1 (.seq (.region false 0 [0, 1, 5, 17] r53_4) (.cond (.t 17) (.seq (.region false 0 [4] r53_5) .ret) .skip))) (.region false 0 [0, 1, 5] r53_3)))
def r53_6 : List VOper := [
  ⟨some 4, .move (.c (.d (.bool false))), none, []⟩]
def v53 : VFn := ⟨2, [.tmp 4], (.seq (.region false 0 [0, 1] r53_0) (.seq (.seq (.region false 0 [0, 1, 5] r53_1) (.block 0 (.loop [0, 1, 5] b53_0))) (.seq (.region false 0 [4] r53_6) .ret)))⟩
/-! loop.example/g00461/impl.NumIn -/
def r54_0 : List VOper := [
  ⟨some 4, .move (.c (.d (.bool false))), none, []⟩]
def r54_1 : List VOper := [
  ⟨some 5, .move (.t 0), none, []⟩,
  ⟨some 6, .move (.t 1), none, []⟩,
  ⟨some 7, .call true (.c (.fn 55 [])) [.t 5, .t 6], none, []⟩,
  ⟨some 4, .move (.t 7), none, []⟩]
def v54 : VFn := ⟨2, [.tmp 4], (.seq (.region false 0 [0, 1] r54_0) (.seq (.region false 0 [4] r54_1) .ret))⟩
/-! slices.Contains[[]int,int] -/
def r55_0 : List VOper := [
  ⟨some 4, .move (.c (.d (.bool false))), none, []⟩]
def r55_1 : List VOper := [
  ⟨some 5, .move (.t 0), none, []⟩,
  ⟨some 6, .move (.t 1), none, []⟩,
  ⟨some 7, .call true (.c (.fn 56 [])) [.t 5, .t 6], none, []⟩,
  ⟨some 8, .bin .geq (.t 7) (.c (.d (.int .i64 0))), none, []⟩,
  ⟨some 4, .move (.t 8), none, []⟩]
def v55 : VFn := ⟨2, [.tmp 4], (.seq (.region false 0 [0, 1] r55_0) (.seq (.region false 0 [4] r55_1) .ret))⟩
/-! slices.Index[[]int,int] -/
def r56_0 : List VOper := [
  ⟨some 4, .move (.c (.d (.int .i64 0))), none, []⟩]
def r56_1 : List VOper := [
  ⟨some 6, .move (.t 0), none, []⟩,
  ⟨some 7, .len false (.t 6), none, []⟩,
  ⟨some 8, .move (.c (.d (.int .i64 0))), none, []⟩]
def r56_2 : List VOper := [
  ⟨some 9, .bin .lss (.t 8) (.t 7), none, []⟩]
def r56_3 : List VOper := [
  ⟨some 10, .move (.t 8), none, []⟩,
  ⟨some 5, .move (.t 10), none, []⟩]
def r56_4 : List VOper := [
  ⟨some 11, .move (.t 1), none, []⟩,
  ⟨some 12, .move (.t 0), none, []⟩,
  ⟨some 13, .move (.t 5), none, []⟩,
  ⟨some 14, .indexAddr 1 none (.t 12) (.t 13), none, []⟩,
  ⟨some 15, .load false 1 (.t 14), none, []⟩,
  ⟨some 16, .bin .eql (.t 11) (.t 15), none, []⟩]
def r56_5 : List VOper := [
  ⟨some 17, .move (.t 5), none, []⟩,
  ⟨some 4, .move (.t 17), none, []⟩]
def r56_6 : List VOper := [
  ⟨some 18, .bin .add (.t 8) (.c (.d (.int .i64 1))), none, []⟩,
  ⟨some 8, .move (.t 18), none, []⟩]
def b56_0 : VCode := (.seq (.region false 0 [0, 1, 7, 8, 9] r56_2) (.seq (.cond (.t 9) .skip (.exit 0)) (.seq (.block 1 (.seq (.region false 0 [0, 1, 5, 7, 8] r56_3) (.seq (.region false 0 [0, 1, 5, 7, 8, 16] r56_4) (.cond (.t 16) (.seq (.region false 0 [4] r56_5) .ret) .skip)))) (.region false 0 [0, 1, 7, 8] r56_6))))
def r56_7 : List VOper := [
  ⟨some 4, .move (.c (.d (.int .i64 (-1)))), none, []⟩]
def v56 : VFn := ⟨2, [.tmp 4], (.seq (.region false 0 [0, 1] r56_0) (.seq (.seq (.region false 0 [0, 1, 7, 8] r56_1) (.block 0 (.loop [0, 1, 7, 8] b56_0))) (.seq (.region false 0 [4] r56_7) .ret)))⟩
/-! loop.example/g00461/impl.Count -/
def r73_0 : List VOper := [
  ⟨some 2, .box 0 (.t 0), none, []⟩,
  ⟨some 3, .box 1 (.t 1), none, []⟩,
  ⟨some 4, .move (.c (.d (.int .i64 0))), none, []⟩]
def r73_1 : List VOper := [
  ⟨some 5, .alloc 0 [.int .i64 0], none, []⟩,
  ⟨none, .store false 1 (.t 5) (.c (.d (.int .i64 0))), none, []⟩]
def r73_2 : List VOper := [
  ⟨some 6, .load true 3 (.t 2), none, []⟩,
  ⟨some 7, .makeFunc 74 [.t 3, .t 5], none, []⟩,
  ⟨some 8, .call false (.c (.fn 25 [])) [.t 6, .t 7], none, []⟩]
def r73_3 : List VOper := [
  ⟨some 9, .load false 1 (.t 5), none, []⟩,
  ⟨some 4, .move (.t 9), none, []⟩]
def v73 : VFn := ⟨2, [.tmp 4], (.seq (.region false 2 [2, 3] r73_0) (.seq (.region false 1 [2, 3, 5] r73_1) (.seq (.region false 0 [5] r73_2) (.seq (.region false 0 [4] r73_3) .ret))))⟩
/-! loop.example/g00461/impl.Count$1 -/
def r74_0 : List VOper := [
  ⟨some 3, .box 0 (.t 0), none, []⟩]
def r74_1 : List VOper := [
  ⟨some 4, .load true 3 (.t 3), none, []⟩,
  ⟨some 5, .call true (.c (.fn 75 [])) [.t 4], none, []⟩,
  ⟨some 6, .move (.t 5), none, []⟩,
  ⟨some 7, .fieldAddr 1 (.t 3), some (6, true), []⟩,
  ⟨some 8, .load false 1 (.t 7), some (6, true), []⟩,
  ⟨some 9, .load false 1 (.t 1), some (6, true), []⟩,
  ⟨some 10, .bin .eql (.t 8) (.t 9), some (6, true), []⟩,
  ⟨some 11, .pick (.t 6) (.t 10) (.c (.d (.bool false))), none, []⟩]
def r74_2 : List VOper := [
  ⟨some 12, .load false 1 (.t 2), none, []⟩,
  ⟨some 13, .bin .add (.t 12) (.c (.d (.int .i64 1))), none, []⟩,
  ⟨none, .store false 1 (.t 2) (.t 13), none, []⟩]
def v74 : VFn := ⟨3, [], (.seq (.region false 1 [1, 2, 3] r74_0) (.seq (.region false 0 [2, 11] r74_1) (.cond (.t 11) (.region false 0 [] r74_2) .skip)))⟩
/-! loop.example/g00461/impl.isVar -/
def r75_0 : List VOper := [
  ⟨some 1, .box 0 (.t 0), none, []⟩,
  ⟨some 2, .move (.c (.d (.bool false))), none, []⟩]
def r75_1 : List VOper := [
  ⟨some 3, .fieldAddr 0 (.t 1), none, []⟩,
  ⟨some 4, .load false 1 (.t 3), none, []⟩,
  ⟨some 5, .bin .eql (.t 4) (.c (.d (.int .i64 (-1)))), none, []⟩,
  ⟨some 2, .move (.t 5), none, []⟩]
def v75 : VFn := ⟨1, [.tmp 2], (.seq (.region false 1 [1] r75_0) (.seq (.region false 0 [2] r75_1) .ret))⟩
/-! loop.example/g00461/spec.Before -/
def r84_0 : List VOper := [
  ⟨some 2, .box 0 (.t 0), none, []⟩,
  ⟨some 3, .box 1 (.t 1), none, []⟩,
  ⟨some 4, .move (.c (.d (.bool false))), none, []⟩]
def r84_1 : List VOper := [
  ⟨some 6, .fieldAddr 0 (.t 2), none, []⟩,
  ⟨some 7, .load false 1 (.t 6), none, []⟩,
  ⟨some 8, .fieldAddr 0 (.t 3), none, []⟩,
  ⟨some 9, .load false 1 (.t 8), none, []⟩,
  ⟨some 10, .bin .neq (.t 7) (.t 9), none, []⟩]
def r84_2 : List VOper := [
  ⟨some 11, .fieldAddr 0 (.t 2), none, []⟩,
  ⟨some 12, .load false 1 (.t 11), none, []⟩,
  ⟨some 13, .fieldAddr 0 (.t 3), none, []⟩,
  ⟨some 14, .load false 1 (.t 13), none, []⟩,
  ⟨some 15, .bin .lss (.t 12) (.t 14), none, []⟩,
  ⟨some 4, .move (.t 15), none, []⟩]
def r84_3 : List VOper := [
  ⟨some 16, .fieldAddr 1 (.t 2), none, []⟩,
  ⟨some 17, .load false 1 (.t 16), none, []⟩,
  ⟨some 18, .fieldAddr 1 (.t 3), none, []⟩,
  ⟨some 19, .load false 1 (.t 18), none, []⟩,
  ⟨some 20, .bin .neq (.t 17) (.t 19), none, []⟩]
def r84_4 : List VOper := [
  ⟨some 21, .fieldAddr 1 (.t 2), none, []⟩,
  ⟨some 22, .load false 1 (.t 21), none, []⟩,
  ⟨some 23, .fieldAddr 1 (.t 3), none, []⟩,
  ⟨some 24, .load false 1 (.t 23), none, []⟩,
  ⟨some 25, .bin .lss (.t 22) (.t 24), none, []⟩,
  ⟨some 4, .move (.t 25), none, []⟩]
def r84_5 : List VOper := [
  ⟨some 26, .fieldAddr 2 (.t 2), none, []⟩,
  ⟨some 27, .load false 1 (.t 26), none, []⟩,
  ⟨some 28, .len false (.t 27), none, []⟩,
  ⟨some 29, .fieldAddr 2 (.t 3), none, []⟩,
  ⟨some 30, .load false 1 (.t 29), none, []⟩,
  ⟨some 31, .len false (.t 30), none, []⟩,
  ⟨some 32, .bin .neq (.t 28) (.t 31), none, []⟩]
def r84_6 : List VOper := [
  ⟨some 33, .fieldAddr 2 (.t 2), none, []⟩,
  ⟨some 34, .load false 1 (.t 33), none, []⟩,
  ⟨some 35, .len false (.t 34), none, []⟩,
  ⟨some 36, .fieldAddr 2 (.t 3), none, []⟩,
  ⟨some 37, .load false 1 (.t 36), none, []⟩,
  ⟨some 38, .len false (.t 37), none, []⟩,
  ⟨some 39, .bin .lss (.t 35) (.t 38), none, []⟩,
  ⟨some 4, .move (.t 39), none, []⟩]
def r84_7 : List VOper := [
  ⟨some 5, .move (.c (.d (.int .i64 0))), none, []⟩]
def r84_8 : List VOper := [
  ⟨some 40, .move (.t 5), none, []⟩,
  ⟨some 41, .fieldAddr 2 (.t 2), none, []⟩,
  ⟨some 42, .load false 1 (.t 41), none, []⟩,
  ⟨some 43, .len false (.t 42), none, []⟩,
  ⟨some 44, .bin .lss (.t 40) (.t 43), none, []⟩]
def r84_10 : List VOper := [
  ⟨some 47, .fieldAddr 2 (.t 2), none, []⟩,
  ⟨some 48, .load false 1 (.t 47), none, [0]⟩,
  ⟨some 49, .move (.t 5), none, []⟩,
  ⟨some 50, .indexAddr 3 none (.t 48) (.t 49), none, [1, 2]⟩,
  ⟨some 51, .load true 3 (.t 50), none, [3]⟩,
  ⟨some 52, .fieldAddr 2 (.t 3), none, []⟩,
  ⟨some 53, .load false 1 (.t 52), none, [5]⟩,
  ⟨some 54, .move (.t 5), none, []⟩,
  ⟨some 55, .indexAddr 3 none (.t 53) (.t 54), none, [6, 7]⟩,
  ⟨some 56, .load true 3 (.t 55), none, [8]⟩,
  ⟨some 57, .call true (.c (.fn 3 [])) [.t 51, .t 56], none, [4, 9]⟩,
  ⟨some 58, .not (.t 57), none, [10]⟩]
def r84_11 : List VOper := [
  ⟨some 59, .fieldAddr 2 (.t 2), none, []⟩,
  ⟨some 60, .load false 1 (.t 59), none, [0]⟩,
  ⟨some 61, .move (.t 5), none, []⟩,
  ⟨some 62, .indexAddr 3 none (.t 60) (.t 61), none, [1, 2]⟩,
  ⟨some 63, .load true 3 (.t 62), none, [3]⟩,
  ⟨some 64, .fieldAddr 2 (.t 3), none, []⟩,
  ⟨some 65, .load false 1 (.t 64), none, [5]⟩,
  ⟨some 66, .move (.t 5), none, []⟩,
  ⟨some 67, .indexAddr 3 none (.t 65) (.t 66), none, [6, 7]⟩,
  ⟨some 68, .load true 3 (.t 67), none, [8]⟩,
  ⟨some 69, .call true (.c (.fn 84 [])) [.t 63, .t 68], none, [4, 9]⟩,
  ⟨some 4, .move (.t 69), none, [0, 1, 2, 3, 4, 5, 6, 7, 8, 9, 10]⟩]
def r84_9 : List VOper := [
  ⟨some 45, .move (.t 5), none, []⟩,
  ⟨some 46, .bin .add (.t 45) (.c (.d (.int .i64 1))), none, []⟩,
  ⟨some 5, .move (.t 46), none, []⟩]
def b84_0 : VCode := (.seq (.seq (.region false 0 [2, 3, 5, 44] r84_8) (.cond (.t 44) .skip (.exit 0))) (.seq (.block 1 (.seq (.region true 0 [2, 3, 5, 58] r84_10) (.cond (.t 58) (.seq (.region true 0 [4] r84_11) .ret) .skip))) (.region false 0 [2, 3, 5] r84_9)))
def r84_12 : List VOper := [
  ⟨some 4, .move (.c (.d (.bool false))), none, []⟩]
def v84 : VFn := ⟨2, [.tmp 4], (.seq (.region false 2 [2, 3] r84_0) (.seq (.seq (.region false 0 [2, 3, 10] r84_1) (.cond (.t 10) (.seq (.region false 0 [4] r84_2) .ret) .skip)) (.seq (.seq (.region false 0 [2, 3, 20] r84_3) (.cond (.t 20) (.seq (.region false 0 [4] r84_4) .ret) .skip)) (.seq (.seq (.region false 0 [2, 3, 32] r84_5) (.cond (.t 32) (.seq (.region false 0 [4] r84_6) .ret) .skip)) (.seq (.seq (.region false 0 [2, 3, 5] r84_7) (.block 0 (.loop [2, 3, 5] b84_0))) (.seq (.region false 0 [4] r84_12) .ret))))))⟩
/-! loop.example/g00461/impl.Ground -/
def r103_0 : List VOper := [
  ⟨some 1, .box 0 (.t 0), none, []⟩,
  ⟨some 2, .move (.c (.d (.bool false))), none, []⟩]
def r103_1 : List VOper := [
  ⟨some 3, .load true 3 (.t 1), none, []⟩,
  ⟨some 4, .call true (.c (.fn 104 [])) [.t 3], none, []⟩,
  ⟨some 5, .len false (.t 4), none, []⟩,
  ⟨some 6, .bin .eql (.t 5) (.c (.d (.int .i64 0))), none, []⟩,
  ⟨some 2, .move (.t 6), none, []⟩]
def v103 : VFn := ⟨1, [.tmp 2], (.seq (.region false 1 [1] r103_0) (.seq (.region false 0 [2] r103_1) .ret))⟩
/-! loop.example/g00461/impl.VarsOf -/
def r104_0 : List VOper := [
  ⟨some 1, .box 0 (.t 0), none, []⟩,
  ⟨some 2, .move (.c (.d (.sl .nil []))), none, []⟩]
def r104_1 : List VOper := [
  ⟨some 4, .buildSlice 1 (.int .i64 0) 0 [], none, []⟩,
  ⟨some 3, .alloc 0 [.sl .nil []], none, []⟩,
  ⟨none, .store false 1 (.t 3) (.t 4), none, []⟩]
def r104_2 : List VOper := [
  ⟨some 5, .load true 3 (.t 1), none, []⟩,
  ⟨some 6, .makeFunc 105 [.t 3], none, []⟩,
  ⟨some 7, .call false (.c (.fn 25 [])) [.t 5, .t 6], none, []⟩]
def r104_3 : List VOper := [
  ⟨some 8, .load false 1 (.t 3), none, []⟩,
  ⟨some 2, .move (.t 8), none, []⟩]
def v104 : VFn := ⟨1, [.tmp 2], (.seq (.region false 1 [1] r104_0) (.seq (.region false 1 [1, 3] r104_1) (.seq (.region false 0 [3] r104_2) (.seq (.region false 0 [2] r104_3) .ret))))⟩
/-! loop.example/g00461/impl.VarsOf$1 -/
def r105_0 : List VOper := [
  ⟨some 2, .box 0 (.t 0), none, []⟩]
def r105_1 : List VOper := [
  ⟨some 3, .load true 3 (.t 2), none, []⟩,
  ⟨some 4, .call true (.c (.fn 75 [])) [.t 3], none, []⟩]
def r105_2 : List VOper := [
  ⟨some 5, .load false 1 (.t 1), none, []⟩,
  ⟨some 6, .fieldAddr 1 (.t 2), none, []⟩,
  ⟨some 7, .load false 1 (.t 6), none, []⟩,
  ⟨some 8, .call true (.c (.fn 106 [])) [.t 5, .t 7], none, []⟩,
  ⟨none, .store false 1 (.t 1) (.t 8), none, []⟩]
def v105 : VFn := ⟨2, [], (.seq (.region false 1 [1, 2] r105_0) (.seq (.region false 0 [1, 2, 4] r105_1) (.cond (.t 4) (.region false 0 [] r105_2) .skip)))⟩
/-! loop.example/g00461/impl.NumAdd -/
def r106_0 : List VOper := [
  ⟨some 3, .box 0 (.t 1), none, []⟩,
  ⟨some 4, .move (.c (.d (.sl .nil []))), none, []⟩]
def r106_1 : List VOper := [
  ⟨some 7, .move (.t 0), none, []⟩,
  ⟨some 8, .call true (.c (.fn 107 [])) [.t 7], none, []⟩,
  ⟨some 5, .move (.t 8), none, []⟩]
def r106_2 : List VOper := [
  ⟨some 9, .move (.t 0), none, []⟩,
  ⟨some 10, .load false 1 (.t 3), none, []⟩,
  ⟨some 11, .call true (.c (.fn 54 [])) [.t 9, .t 10], none, []⟩]
def r106_3 : List VOper := [
  ⟨some 12, .move (.t 5), none, []⟩,
  ⟨some 4, .move (.t 12), none, []⟩]
def r106_4 : List VOper := [
  ⟨some 13, .move (.t 0), none, []⟩,
  ⟨some 14, .makeFunc 108 [.t 3], none, []⟩,
  ⟨some 15, .call false (.c (.fn 47 [])) [.t 13, .t 14], none, []⟩,
  ⟨some 6, .move (.t 15), none, []⟩]
def r106_5 : List VOper := [
  ⟨some 16, .move (.t 6), none, []⟩,
  ⟨some 17, .bin .lss (.t 16) (.c (.d (.int .i64 0))), none, []⟩]
def r106_6 : List VOper := [
  ⟨some 18, .move (.t 0), none, []⟩,
  ⟨some 19, .len false (.t 18), none, []⟩,
  ⟨some 6, .move (.t 19), none, []⟩]
def r106_7 : List VOper := [
  ⟨some 20, .move (.t 5), none, []⟩,
  ⟨some 21, .move (.t 6), none, []⟩,
  ⟨some 22, .load false 1 (.t 3), none, []⟩,
  ⟨some 23, .buildSlice 1 (.int .i64 0) 1 [(0, .t 22)], none, []⟩,
  ⟨some 24, .call true (.c (.fn 109 [])) [.t 20, .t 21, .t 23], none, []⟩,
  ⟨some 4, .move (.t 24), none, []⟩]
def v106 : VFn := ⟨2, [.tmp 4], (.seq (.region false 1 [0, 3] r106_0) (.seq (.region false 0 [0, 3, 5] r106_1) (.seq (.seq (.region false 0 [0, 3, 5, 11] r106_2) (.cond (.t 11) (.seq (.region false 0 [4] r106_3) .ret) .skip)) (.seq (.region false 0 [0, 3, 5, 6] r106_4) (.seq (.seq (.region false 0 [0, 3, 5, 6, 17] r106_5) (.cond (.t 17) (.region false 0 [3, 5, 6] r106_6) .skip)) (.seq (.region false 0 [4] r106_7) .ret))))))⟩
/-! slices.Clone[[]int,int] -/
def r107_0 : List VOper := [
  ⟨some 2, .move (.c (.d (.sl .nil []))), none, []⟩]
def r107_1 : List VOper := [
  ⟨some 3, .move (.t 0), none, []⟩,
  ⟨some 4, .eqNil false (.t 3), none, []⟩]
def r107_2 : List VOper := [
  ⟨some 2, .move (.c (.d (.sl .nil []))), none, []⟩]
def r107_3 : List VOper := [
  ⟨some 5, .buildSlice 1 (.int .i64 0) 0 [], none, []⟩,
  ⟨some 6, .move (.t 0), none, []⟩,
  ⟨some 7, .append 1 8 (.t 5) (.t 6), none, []⟩,
  ⟨some 2, .move (.t 7), none, []⟩]
def v107 : VFn := ⟨1, [.tmp 2], (.seq (.region false 0 [0] r107_0) (.seq (.seq (.region false 0 [0, 4] r107_1) (.cond (.t 4) (.seq (.region false 0 [2] r107_2) .ret) .skip)) (.seq (.region false 0 [2] r107_3) .ret)))⟩
/-! loop.example/g00461/impl.NumAdd$1 -/
def r108_0 : List VOper := [
  ⟨some 3, .move (.c (.d (.bool false))), none, []⟩]
def r108_1 : List VOper := [
  ⟨some 4, .move (.t 0), none, []⟩,
  ⟨some 5, .load false 1 (.t 1), none, []⟩,
  ⟨some 6, .bin .gtr (.t 4) (.t 5), none, []⟩,
  ⟨some 3, .move (.t 6), none, []⟩]
def v108 : VFn := ⟨2, [.tmp 3], (.seq (.region false 0 [0, 1] r108_0) (.seq (.region false 0 [3] r108_1) .ret))⟩
/-! loop.example/g00461/spec.VarsOf -/
def r110_0 : List VOper := [
  ⟨some 1, .box 0 (.t 0), none, []⟩,
  ⟨some 2, .move (.c (.d (.sl .nil []))), none, []⟩]
def r110_1 : List VOper := [
  ⟨some 3, .load true 3 (.t 1), none, []⟩,
  ⟨some 4, .buildSlice 1 (.int .i64 0) 0 [], none, []⟩,
  ⟨some 5, .call true (.c (.fn 111 [])) [.t 3, .t 4], none, []⟩,
  ⟨some 2, .move (.t 5), none, []⟩]
def v110 : VFn := ⟨1, [.tmp 2], (.seq (.region false 1 [1] r110_0) (.seq (.region false 0 [2] r110_1) .ret))⟩
/-! loop.example/g00461/spec.l3Vars -/
def r111_0 : List VOper := [
  ⟨some 2, .box 0 (.t 0), none, []⟩,
  ⟨some 4, .move (.c (.d (.sl .nil []))), none, []⟩]
def r111_1 : List VOper := [
  ⟨some 6, .fieldAddr 0 (.t 2), none, []⟩,
  ⟨some 7, .load false 1 (.t 6), none, []⟩,
  ⟨some 8, .bin .eql (.t 7) (.c (.d (.int .i64 (-1)))), none, []⟩]
def r111_2 : List VOper := [
  ⟨some 9, .move (.t 1), none, []⟩,
  ⟨some 10, .fieldAddr 1 (.t 2), none, []⟩,
  ⟨some 11, .load false 1 (.t 10), none, []⟩,
  ⟨some 12, .call true (.c (.fn 112 [])) [.t 9, .t 11], none, []⟩,
  ⟨some 1, .move (.t 12), none, []⟩]
def r111_3 : List VOper := [
  ⟨some 5, .move (.c (.d (.int .i64 0))), none, []⟩]
def r111_4 : List VOper := [
  ⟨some 13, .move (.t 5), none, []⟩,
  ⟨some 14, .fieldAddr 2 (.t 2), none, []⟩,
  ⟨some 15, .load false 1 (.t 14), none, []⟩,
  ⟨some 16, .len false (.t 15), none, []⟩,
  ⟨some 17, .bin .lss (.t 13) (.t 16), none, []⟩]
def r111_6 : List VOper := [
  ⟨some 20, .fieldAddr 2 (.t 2), none, []⟩,
  ⟨some 21, .load false 1 (.t 20), none, []⟩,
  ⟨some 22, .move (.t 5), none, []⟩,
  ⟨some 23, .indexAddr 3 none (.t 21) (.t 22), none, []⟩,
  ⟨some 24, .load true 3 (.t 23), none, []⟩,
  ⟨some 25, .move (.t 1), none, []⟩,
  ⟨some 26, .call true (.c (.fn 111 [])) [.t 24, .t 25], none, []⟩,
  ⟨some 1, .move (.t 26), none, []⟩]
def r111_5 : List VOper := [
  ⟨some 18, .move (.t 5), none, []⟩,
  ⟨some 19, .bin .add (.t 18) (.c (.d (.int .i64 1))), none, []⟩,
  ⟨some 5, .move (.t 19), none, []⟩]
def b111_0 : VCode := (.seq (.seq (.region false 0 [1, 2, 5, 17] r111_4) (.cond (.t 17) .skip (.exit 0))) (.seq (.block 1 (.region false 0 [1, 2, 5] r111_6)) (.region false 0 [1, 2, 5] r111_5)))
def r111_7 : List VOper := [
  ⟨some 27, .move (.t 1), none, []⟩,
  ⟨some 4, .move (.t 27), none, []⟩]
def v111 : VFn := ⟨2, [.tmp 4], (.seq (.region false 1 [1, 2] r111_0) (.seq (.seq (.region false 0 [1, 2, 8] r111_1) (.cond (.t 8) (.region false 0 [1, 2] r111_2) .skip)) (.seq (.seq (.region false 0 [1, 2, 5] r111_3) (.block 0 (.loop [1, 2, 5] b111_0))) (.seq (.region false 0 [4] r111_7) .ret))))⟩
/-! loop.example/g00461/spec.NumAdd -/
def r112_0 : List VOper := [
  ⟨some 4, .move (.c (.d (.sl .nil []))), none, []⟩]
def r112_1 : List VOper := [
  ⟨some 7, .move (.t 0), none, []⟩,
  ⟨some 8, .move (.t 1), none, []⟩,
  ⟨some 9, .call true (.c (.fn 53 [])) [.t 7, .t 8], none, []⟩]
def r112_2 : List VOper := [
  ⟨some 10, .buildSlice 1 (.int .i64 0) 0 [], none, []⟩,
  ⟨some 11, .move (.t 0), none, []⟩,
  ⟨some 12, .append 1 8 (.t 10) (.t 11), none, []⟩,
  ⟨some 4, .move (.t 12), none, []⟩]
def r112_3 : List VOper := [
  ⟨some 5, .move (.c (.d (.int .i64 0))), none, []⟩]
def r112_4 : List VOper := [
  ⟨some 13, .move (.t 5), none, []⟩,
  ⟨some 14, .move (.t 0), none, []⟩,
  ⟨some 15, .len false (.t 14), none, []⟩,
  ⟨some 16, .bin .lss (.t 13) (.t 15), none, []⟩,
  ⟨some 17, .move (.t 16), none, []⟩,
  ⟨some 18, .move (.t 0), some (17, true), []⟩,
  ⟨some 19, .move (.t 5), some (17, true), []⟩,
  ⟨some 20, .indexAddr 1 none (.t 18) (.t 19), some (17, true), []⟩,
  ⟨some 21, .load false 1 (.t 20), some (17, true), []⟩,
  ⟨some 22, .move (.t 1), some (17, true), []⟩,
  ⟨some 23, .bin .lss (.t 21) (.t 22), some (17, true), []⟩,
  ⟨some 24, .pick (.t 17) (.t 23) (.c (.d (.bool false))), none, []⟩]
def r112_5 : List VOper := [
  ⟨some 25, .move (.t 5), none, []⟩,
  ⟨some 26, .bin .add (.t 25) (.c (.d (.int .i64 1))), none, []⟩,
  ⟨some 5, .move (.t 26), none, []⟩]
def b112_0 : VCode := (.seq (.seq (.region false 0 [0, 1, 5, 24] r112_4) (.cond (.t 24) .skip (.exit 0))) (.block 1 (.region false 0 [0, 1, 5] r112_5)))
def r112_6 : List VOper := [
  ⟨some 27, .buildSlice 1 (.int .i64 0) 0 [], none, []⟩,
  ⟨some 28, .move (.t 0), none, []⟩,
  ⟨some 29, .move (.t 5), none, []⟩,
  ⟨some 30, .slice false 1 (.t 28) none (some (.t 29)), none, []⟩,
  ⟨some 31, .append 1 8 (.t 27) (.t 30), none, []⟩,
  ⟨some 6, .move (.t 31), none, []⟩]
def r112_7 : List VOper := [
  ⟨some 32, .move (.t 6), none, []⟩,
  ⟨some 33, .move (.t 1), none, []⟩,
  ⟨some 34, .buildSlice 1 (.int .i64 0) 1 [(0, .t 33)], none, []⟩,
  ⟨some 35, .append 1 8 (.t 32) (.t 34), none, []⟩,
  ⟨some 6, .move (.t 35), none, []⟩]
def r112_8 : List VOper := [
  ⟨some 36, .move (.t 6), none, []⟩,
  ⟨some 37, .move (.t 0), none, []⟩,
  ⟨some 38, .move (.t 5), none, []⟩,
  ⟨some 39, .slice false 1 (.t 37) (some (.t 38)) none, none, []⟩,
  ⟨some 40, .append 1 8 (.t 36) (.t 39), none, []⟩,
  ⟨some 4, .move (.t 40), none, []⟩]
def v112 : VFn := ⟨2, [.tmp 4], (.seq (.region false 0 [0, 1] r112_0) (.seq (.seq (.region false 0 [0, 1, 9] r112_1) (.cond (.t 9) (.seq (.region false 0 [4] r112_2) .ret) .skip)) (.seq (.region false 0 [0, 1, 5] r112_3) (.seq (.block 0 (.loop [0, 1, 5] b112_0)) (.seq (.region false 0 [0, 1, 5, 6] r112_6) (.seq (.region false 0 [0, 5, 6] r112_7) (.seq (.region false 0 [4] r112_8) .ret)))))))⟩
/-! loop.example/g00461/laws.big -/
def r133_0 : List VOper := [
  ⟨some 2, .move (.c (.d (.bool false))), none, []⟩]
def r133_1 : List VOper := [
  ⟨some 3, .move (.t 0), none, []⟩,
  ⟨some 4, .len false (.t 3), none, []⟩,
  ⟨some 5, .bin .gtr (.t 4) (.c (.d (.int .i64 1048576))), none, []⟩,
  ⟨some 2, .move (.t 5), none, []⟩]
def v133 : VFn := ⟨1, [.tmp 2], (.seq (.region false 0 [0] r133_0) (.seq (.region false 0 [2] r133_1) .ret))⟩
/-! loop.example/g00461/spec.l3Var -/
def r147_0 : List VOper := [
  ⟨some 2, .alloc 0 [.int .i64 0, .int .i64 0, .sl .nil []], none, []⟩]
def r147_1 : List VOper := [
  ⟨some 3, .move (.t 0), none, []⟩,
  ⟨some 4, .build [.int .i64 0, .int .i64 0, .sl .nil []] [(0, 1, .c (.d (.int .i64 (-1)))), (1, 1, .t 3)], none, []⟩,
  ⟨none, .store false 3 (.t 2) (.t 4), none, []⟩]
def v147 : VFn := ⟨1, [.cell 2 true 3], (.seq (.region false 1 [0, 2] r147_0) (.seq (.region false 0 [2] r147_1) .ret))⟩
/-! loop.example/g00461/spec.Norm -/
def r153_0 : List VOper := [
  ⟨some 3, .box 0 (.t 1), none, []⟩,
  ⟨some 4, .alloc 1 [.int .i64 0, .int .i64 0, .sl .nil []], none, []⟩]
def r153_1 : List VOper := [
  ⟨some 9, .fieldAddr 0 (.t 3), none, []⟩,
  ⟨some 10, .load false 1 (.t 9), none, []⟩,
  ⟨some 11, .fieldAddr 1 (.t 3), none, []⟩,
  ⟨some 12, .load false 1 (.t 11), none, []⟩,
  ⟨some 13, .build [.int .i64 0, .int .i64 0, .sl .nil []] [(0, 1, .t 10), (1, 1, .t 12)], none, []⟩,
  ⟨some 5, .alloc 0 [.int .i64 0, .int .i64 0, .sl .nil []], none, []⟩,
  ⟨none, .store false 3 (.t 5) (.t 13), none, []⟩]
def r153_2 : List VOper := [
  ⟨some 6, .move (.c (.d (.int .i64 0))), none, []⟩]
def r153_3 : List VOper := [
  ⟨some 14, .move (.t 6), none, []⟩,
  ⟨some 15, .fieldAddr 2 (.t 3), none, []⟩,
  ⟨some 16, .load false 1 (.t 15), none, []⟩,
  ⟨some 17, .len false (.t 16), none, []⟩,
  ⟨some 18, .bin .lss (.t 14) (.t 17), none, []⟩]
def r153_5 : List VOper := [
  ⟨some 21, .move (.t 0), none, []⟩,
  ⟨some 22, .fieldAddr 2 (.t 3), none, []⟩,
  ⟨some 23, .load false 1 (.t 22), none, []⟩,
  ⟨some 24, .move (.t 6), none, []⟩,
  ⟨some 25, .indexAddr 3 none (.t 23) (.t 24), none, []⟩,
  ⟨some 26, .load true 3 (.t 25), none, []⟩,
  ⟨some 27, .call true (.c (.fn 153 [])) [.t 21, .t 26], none, []⟩,
  ⟨some 7, .alloc 0 [.int .i64 0, .int .i64 0, .sl .nil []], none, []⟩,
  ⟨none, .store false 3 (.t 7) (.t 27), none, []⟩]
def r153_10 : List VOper := [
  ⟨some 45, .move (.t 0), none, []⟩,
  ⟨some 46, .fieldAddr 0 (.t 3), none, []⟩,
  ⟨some 47, .load false 1 (.t 46), none, []⟩,
  ⟨some 48, .call true (.c (.fn 33 [])) [.t 45, .t 47], none, []⟩,
  ⟨some 49, .not (.t 48), none, []⟩,
  ⟨some 44, .move (.t 49), none, []⟩]
def r153_11 : List VOper := [
  ⟨some 50, .fieldAddr 2 (.t 5), none, []⟩,
  ⟨some 51, .load false 1 (.t 50), none, []⟩,
  ⟨some 52, .load true 3 (.t 7), none, []⟩,
  ⟨some 53, .buildSlice 3 (.agg [.int .i64 0, .int .i64 0, .sl .nil []]) 1 [(0, .t 52)], none, []⟩,
  ⟨some 54, .append 3 40 (.t 51) (.t 53), none, []⟩,
  ⟨some 55, .fieldAddr 2 (.t 5), none, []⟩,
  ⟨none, .store false 1 (.t 55) (.t 54), none, []⟩]
def r153_12 : List VOper := [
  ⟨some 57, .fieldAddr 0 (.t 7), none, []⟩,
  ⟨some 58, .load false 1 (.t 57), none, []⟩,
  ⟨some 59, .fieldAddr 0 (.t 3), none, []⟩,
  ⟨some 60, .load false 1 (.t 59), none, []⟩,
  ⟨some 61, .bin .neq (.t 58) (.t 60), none, []⟩,
  ⟨some 56, .move (.t 61), none, []⟩]
def r153_13 : List VOper := [
  ⟨some 62, .fieldAddr 2 (.t 5), none, []⟩,
  ⟨some 63, .load false 1 (.t 62), none, []⟩,
  ⟨some 64, .load true 3 (.t 7), none, []⟩,
  ⟨some 65, .call false (.c (.fn 154 [])) [.t 63, .t 64], none, []⟩,
  ⟨some 66, .fieldAddr 2 (.t 5), none, []⟩,
  ⟨none, .store false 1 (.t 66) (.t 65), none, []⟩]
def r153_6 : List VOper := [
  ⟨some 8, .move (.c (.d (.int .i64 0))), none, []⟩]
def r153_7 : List VOper := [
  ⟨some 28, .move (.t 8), none, []⟩,
  ⟨some 29, .fieldAddr 2 (.t 7), none, []⟩,
  ⟨some 30, .load false 1 (.t 29), none, []⟩,
  ⟨some 31, .len false (.t 30), none, []⟩,
  ⟨some 32, .bin .lss (.t 28) (.t 31), none, []⟩]
def r153_9 : List FOper := [
  .one ⟨some 35, .fieldAddr 2 (.t 5), none, []⟩,
  .one ⟨some 36, .load false 1 (.t 35), none, [0]⟩,
  .one ⟨some 37, .fieldAddr 2 (.t 7), none, []⟩,
  .el 38 37 39 (.t 8) 40 3 41 [2] [] [3, 4] [5],
  .one ⟨some 42, .call false (.c (.fn 154 [])) [.t 36, .t 41], none, [1, 6]⟩,
  .one ⟨some 43, .fieldAddr 2 (.t 5), none, [0, 1, 2, 3, 4, 5, 6, 7]⟩,
  .one ⟨none, .store false 1 (.t 43) (.t 42), none, [0, 1, 2, 3, 4, 5, 6, 7, 8]⟩]
def r153_8 : List VOper := [
  ⟨some 33, .move (.t 8), none, []⟩,
  ⟨some 34, .bin .add (.t 33) (.c (.d (.int .i64 1))), none, []⟩,
  ⟨some 8, .move (.t 34), none, []⟩]
def b153_1 : VCode := (.seq (.seq (.region false 0 [0, 3, 4, 5, 6, 7, 8, 32] r153_7) (.cond (.t 32) .skip (.exit 3))) (.seq (.block 4 (.regionF true 0 [0, 3, 4, 5, 6, 7, 8] r153_9)) (.region false 0 [0, 3, 4, 5, 6, 7, 8] r153_8)))
def r153_4 : List VOper := [
  ⟨some 19, .move (.t 6), none, []⟩,
  ⟨some 20, .bin .add (.t 19) (.c (.d (.int .i64 1))), none, []⟩,
  ⟨some 6, .move (.t 20), none, []⟩]
def b153_0 : VCode := (.seq (.seq (.region false 0 [0, 3, 4, 5, 6, 18] r153_3) (.cond (.t 18) .skip (.exit 0))) (.seq (.block 1 (.seq (.region false 1 [0, 3, 4, 5, 6, 7] r153_5) (.block 2 (.seq (.region false 0 [0, 3, 4, 5, 6, 7, 44] r153_10) (.cond (.t 44) (.region false 0 [0, 3, 4, 5, 6] r153_11) (.seq (.region false 0 [0, 3, 4, 5, 6, 7, 56] r153_12) (.cond (.t 56) (.region false 0 [0, 3, 4, 5, 6] r153_13) (.seq (.region false 0 [0, 3, 4, 5, 6, 7, 8] r153_6) (.block 3 (.loop [0, 3, 4, 5, 6, 7, 8] b153_1)))))))))) (.region false 0 [0, 3, 4, 5, 6] r153_4)))
def r153_14 : List VOper := [
  ⟨some 67, .load true 3 (.t 5), none, []⟩,
  ⟨none, .store false 3 (.t 4) (.t 67), none, []⟩]
def v153 : VFn := ⟨2, [.cell 4 true 3], (.seq (.region false 2 [0, 3, 4] r153_0) (.seq (.region false 1 [0, 3, 4, 5] r153_1) (.seq (.seq (.region false 0 [0, 3, 4, 5, 6] r153_2) (.block 0 (.loop [0, 3, 4, 5, 6] b153_0))) (.seq (.region false 0 [4] r153_14) .ret))))⟩
/-! loop.example/g00461/spec.l4Put -/
def r154_0 : List VOper := [
  ⟨some 3, .box 0 (.t 1), none, []⟩,
  ⟨some 4, .move (.c (.d (.sl .nil []))), none, []⟩]
def r154_1 : List VOper := [
  ⟨some 5, .move (.c (.d (.int .i64 0))), none, []⟩]
def r154_2 : List VOper := [
  ⟨some 7, .move (.t 5), none, []⟩,
  ⟨some 8, .move (.t 0), none, []⟩,
  ⟨some 9, .len false (.t 8), none, [1]⟩,
  ⟨some 10, .bin .lss (.t 7) (.t 9), none, [0, 2]⟩,
  ⟨some 11, .move (.t 10), none, [3]⟩,
  ⟨some 12, .load true 3 (.t 3), some (11, true), [4]⟩,
  ⟨some 13, .move (.t 0), some (11, true), [4]⟩,
  ⟨some 14, .move (.t 5), some (11, true), [4]⟩,
  ⟨some 15, .indexAddr 3 none (.t 13) (.t 14), some (11, true), [4, 6, 7]⟩,
  ⟨some 16, .load true 3 (.t 15), some (11, true), [4, 8]⟩,
  ⟨some 17, .call true (.c (.fn 84 [])) [.t 12, .t 16], some (11, true), [4, 5, 9]⟩,
  ⟨some 18, .not (.t 17), some (11, true), [4, 10]⟩,
  ⟨some 19, .pick (.t 11) (.t 18) (.c (.d (.bool false))), none, [4, 11]⟩]
def r154_3 : List VOper := [
  ⟨some 20, .move (.t 5), none, []⟩,
  ⟨some 21, .bin .add (.t 20) (.c (.d (.int .i64 1))), none, []⟩,
  ⟨some 5, .move (.t 21), none, []⟩]
def b154_0 : VCode := (.seq (.seq (.region true 0 [0, 3, 5, 19] r154_2) (.cond (.t 19) .skip (.exit 0))) (.block 1 (.region false 0 [0, 3, 5] r154_3)))
def r154_4 : List FOper := [
  .one ⟨some 22, .buildSlice 3 (.agg [.int .i64 0, .int .i64 0, .sl .nil []]) 0 [], none, []⟩,
  .sl 23 0 24 (.t 5) 25 3 none (some (.t 24)) [] [] [],
  .one ⟨some 26, .append 3 40 (.t 22) (.t 25), none, []⟩,
  .one ⟨some 6, .move (.t 26), none, []⟩]
def r154_5 : List VOper := [
  ⟨some 27, .move (.t 6), none, []⟩,
  ⟨some 28, .load true 3 (.t 3), none, []⟩,
  ⟨some 29, .buildSlice 3 (.agg [.int .i64 0, .int .i64 0, .sl .nil []]) 1 [(0, .t 28)], none, []⟩,
  ⟨some 30, .append 3 40 (.t 27) (.t 29), none, []⟩,
  ⟨some 6, .move (.t 30), none, []⟩]
def r154_6 : List FOper := [
  .one ⟨some 31, .move (.t 6), none, []⟩,
  .sl 32 0 33 (.t 5) 34 3 (some (.t 33)) none [] [] [],
  .one ⟨some 35, .append 3 40 (.t 31) (.t 34), none, []⟩,
  .one ⟨some 4, .move (.t 35), none, []⟩]
def v154 : VFn := ⟨2, [.tmp 4], (.seq (.region false 1 [0, 3] r154_0) (.seq (.region false 0 [0, 3, 5] r154_1) (.seq (.block 0 (.loop [0, 3, 5] b154_0)) (.seq (.regionF false 0 [0, 3, 5, 6] r154_4) (.seq (.region false 0 [0, 5, 6] r154_5) (.seq (.regionF false 0 [4] r154_6) .ret))))))⟩
/-! loop.example/g00461/spec.l2Sig -/
def r155_0 : List VOper := [
  ⟨some 0, .move (.c (.d (.sl .nil []))), none, []⟩]
def r155_1 : List VOper := [
  ⟨some 1, .build [.str ⟨#[]⟩, .int .i64 0, .bool false] [(0, 1, .c (.d (.str ⟨#[116, 116]⟩)))], none, []⟩,
  ⟨some 2, .build [.str ⟨#[]⟩, .int .i64 0, .bool false] [(0, 1, .c (.d (.str ⟨#[97]⟩)))], none, []⟩,
  ⟨some 3, .build [.str ⟨#[]⟩, .int .i64 0, .bool false] [(0, 1, .c (.d (.str ⟨#[98]⟩)))], none, []⟩,
  ⟨some 4, .build [.str ⟨#[]⟩, .int .i64 0, .bool false] [(0, 1, .c (.d (.str ⟨#[103]⟩))), (1, 1, .c (.d (.int .i64 1)))], none, []⟩,
  ⟨some 5, .build [.str ⟨#[]⟩, .int .i64 0, .bool false] [(0, 1, .c (.d (.str ⟨#[104]⟩))), (1, 1, .c (.d (.int .i64 2)))], none, []⟩,
  ⟨some 6, .build [.str ⟨#[]⟩, .int .i64 0, .bool false] [(0, 1, .c (.d (.str ⟨#[102]⟩))), (1, 1, .c (.d (.int .i64 2))), (2, 1, .c (.d (.bool true)))], none, []⟩,
  ⟨some 7, .build [.str ⟨#[]⟩, .int .i64 0, .bool false] [(0, 1, .c (.d (.str ⟨#[107]⟩))), (1, 1, .c (.d (.int .i64 2))), (2, 1, .c (.d (.bool true)))], none, []⟩,
  ⟨some 8, .buildSlice 3 (.agg [.str ⟨#[]⟩, .int .i64 0, .bool false]) 7 [(0, .t 1), (1, .t 2), (2, .t 3), (3, .t 4), (4, .t 5), (5, .t 6), (6, .t 7)], none, []⟩,
  ⟨some 0, .move (.t 8), none, []⟩]
def v155 : VFn := ⟨0, [.tmp 0], (.seq (.region false 0 [] r155_0) (.seq (.region false 0 [0] r155_1) .ret))⟩
/-! loop.example/g00461/spec.l1New -/
def r156_0 : List VOper := [
  ⟨some 2, .move (.c .nilp), none, []⟩]
def r156_1 : List VOper := [
  ⟨some 5, .move (.t 0), none, []⟩,
  ⟨some 6, .len false (.t 5), none, []⟩,
  ⟨some 7, .bin .add (.c (.d (.int .i64 27064))) (.t 6), none, []⟩,
  ⟨some 3, .move (.t 7), none, []⟩]
def r156_2 : List VOper := [
  ⟨some 4, .move (.c (.d (.int .i64 0))), none, []⟩]
def r156_3 : List VOper := [
  ⟨some 8, .move (.t 4), none, []⟩,
  ⟨some 9, .move (.t 0), none, []⟩,
  ⟨some 10, .len false (.t 9), none, []⟩,
  ⟨some 11, .bin .lss (.t 8) (.t 10), none, []⟩,
  ⟨some 12, .move (.t 11), none, []⟩,
  ⟨some 13, .move (.t 4), some (12, true), []⟩,
  ⟨some 14, .bin .lss (.t 13) (.c (.d (.int .i64 4000))), some (12, true), []⟩,
  ⟨some 15, .pick (.t 12) (.t 14) (.c (.d (.bool false))), none, []⟩]
def r156_5 : List VOper := [
  ⟨some 18, .move (.t 3), none, []⟩,
  ⟨some 19, .bin .mul (.t 18) (.c (.d (.int .i64 131))), none, []⟩,
  ⟨some 20, .move (.t 0), none, []⟩,
  ⟨some 21, .move (.t 4), none, []⟩,
  ⟨some 22, .indexAddr 1 none (.t 20) (.t 21), none, []⟩,
  ⟨some 23, .load false 1 (.t 22), none, []⟩,
  ⟨some 24, .conv (.kind .i64) (.t 23), none, []⟩,
  ⟨some 25, .bin .add (.t 19) (.t 24), none, []⟩,
  ⟨some 26, .bin .add (.t 25) (.c (.d (.int .i64 7))), none, []⟩,
  ⟨some 27, .bin .and (.t 26) (.c (.d (.int .i64 1073741823))), none, []⟩,
  ⟨some 3, .move (.t 27), none, []⟩]
def r156_4 : List VOper := [
  ⟨some 16, .move (.t 4), none, []⟩,
  ⟨some 17, .bin .add (.t 16) (.c (.d (.int .i64 1))), none, []⟩,
  ⟨some 4, .move (.t 17), none, []⟩]
def b156_0 : VCode := (.seq (.seq (.region false 0 [0, 3, 4, 15] r156_3) (.cond (.t 15) .skip (.exit 0))) (.seq (.block 1 (.region false 0 [0, 3, 4] r156_5)) (.region false 0 [0, 3, 4] r156_4)))
def r156_6 : List VOper := [
  ⟨some 28, .move (.t 0), none, []⟩,
  ⟨some 29, .move (.t 3), none, []⟩,
  ⟨some 30, .build [.sl .nil [], .int .i64 0, .int .i64 0] [(0, 1, .t 28), (2, 1, .t 29)], none, []⟩,
  ⟨some 31, .box 0 (.t 30), none, []⟩,
  ⟨some 2, .move (.t 31), none, []⟩]
def v156 : VFn := ⟨1, [.tmp 2], (.seq (.region false 0 [0] r156_0) (.seq (.region false 0 [0, 3] r156_1) (.seq (.seq (.region false 0 [0, 3, 4] r156_2) (.block 0 (.loop [0, 3, 4] b156_0))) (.seq (.region false 1 [2] r156_6) .ret))))⟩
/-! loop.example/g00461/spec.l1Below -/
def r159_0 : List VOper := [
  ⟨some 4, .move (.c (.d (.int .i64 0))), none, []⟩]
def r159_1 : List VOper := [
  ⟨some 9, .move (.t 1), none, []⟩,
  ⟨some 10, .bin .leq (.t 9) (.c (.d (.int .i64 0))), none, []⟩]
def r159_2 : List VOper := [
  ⟨some 4, .move (.c (.d (.int .i64 0))), none, []⟩]
def r159_3 : List VOper := [
  ⟨some 11, .move (.t 1), none, []⟩,
  ⟨some 12, .bin .leq (.t 11) (.c (.d (.int .i64 256))), none, []⟩]
def r159_4 : List VOper := [
  ⟨some 13, .move (.t 0), none, []⟩,
  ⟨some 14, .call false (.c (.fn 165 [])) [.t 13], none, []⟩,
  ⟨some 15, .move (.t 1), none, []⟩,
  ⟨some 16, .bin .rem (.t 14) (.t 15), none, []⟩,
  ⟨some 4, .move (.t 16), none, []⟩]
def r159_5 : List VOper := [
  ⟨some 17, .move (.t 0), none, []⟩,
  ⟨some 18, .call false (.c (.fn 165 [])) [.t 17], none, []⟩,
  ⟨some 5, .move (.t 18), none, []⟩]
def r159_6 : List VOper := [
  ⟨some 19, .move (.t 0), none, []⟩,
  ⟨some 20, .call false (.c (.fn 165 [])) [.t 19], none, []⟩,
  ⟨some 6, .move (.t 20), none, []⟩]
def r159_7 : List VOper := [
  ⟨some 21, .move (.t 0), none, []⟩,
  ⟨some 22, .call false (.c (.fn 165 [])) [.t 21], none, []⟩,
  ⟨some 7, .move (.t 22), none, []⟩]
def r159_8 : List VOper := [
  ⟨some 23, .move (.t 0), none, []⟩,
  ⟨some 24, .call false (.c (.fn 165 [])) [.t 23], none, []⟩,
  ⟨some 8, .move (.t 24), none, []⟩]
def r159_9 : List VOper := [
  ⟨some 25, .move (.t 5), none, []⟩,
  ⟨some 26, .bin .mul (.t 25) (.c (.d (.int .i64 16777216))), none, []⟩,
  ⟨some 27, .move (.t 6), none, []⟩,
  ⟨some 28, .bin .mul (.t 27) (.c (.d (.int .i64 65536))), none, []⟩,
  ⟨some 29, .bin .add (.t 26) (.t 28), none, []⟩,
  ⟨some 30, .move (.t 7), none, []⟩,
  ⟨some 31, .bin .mul (.t 30) (.c (.d (.int .i64 256))), none, []⟩,
  ⟨some 32, .bin .add (.t 29) (.t 31), none, []⟩,
  ⟨some 33, .move (.t 8), none, []⟩,
  ⟨some 34, .bin .add (.t 32) (.t 33), none, []⟩,
  ⟨some 35, .move (.t 1), none, []⟩,
  ⟨some 36, .bin .rem (.t 34) (.t 35), none, []⟩,
  ⟨some 4, .move (.t 36), none, []⟩]
def v159 : VFn := ⟨2, [.tmp 4], (.seq (.region false 0 [0, 1] r159_0) (.seq (.seq (.region false 0 [0, 1, 10] r159_1) (.cond (.t 10) (.seq (.region false 0 [4] r159_2) .ret) .skip)) (.seq (.seq (.region false 0 [0, 1, 12] r159_3) (.cond (.t 12) (.seq (.region false 0 [4] r159_4) .ret) .skip)) (.seq (.region false 0 [0, 1, 5] r159_5) (.seq (.region false 0 [0, 1, 5, 6] r159_6) (.seq (.region false 0 [0, 1, 5, 6, 7] r159_7) (.seq (.region false 0 [1, 5, 6, 7, 8] r159_8) (.seq (.region false 0 [4] r159_9) .ret))))))))⟩
/-! loop.example/g00461/spec.l1PickInt -/
def r160_0 : List VOper := [
  ⟨some 4, .move (.c (.d (.int .i64 0))), none, []⟩]
def r160_1 : List VOper := [
  ⟨some 5, .move (.t 1), none, []⟩,
  ⟨some 6, .move (.t 0), none, []⟩,
  ⟨some 7, .move (.t 1), none, []⟩,
  ⟨some 8, .len false (.t 7), none, []⟩,
  ⟨some 9, .call false (.c (.fn 159 [])) [.t 6, .t 8], none, []⟩,
  ⟨some 10, .indexAddr 1 none (.t 5) (.t 9), none, []⟩,
  ⟨some 11, .load false 1 (.t 10), none, []⟩,
  ⟨some 4, .move (.t 11), none, []⟩]
def v160 : VFn := ⟨2, [.tmp 4], (.seq (.region false 0 [0, 1] r160_0) (.seq (.region false 0 [4] r160_1) .ret))⟩
/-! loop.example/g00461/spec.l3Draw -/
def r161_0 : List VOper := [
  ⟨some 2, .alloc 0 [.int .i64 0, .int .i64 0, .sl .nil []], none, []⟩]
def r161_1 : List VOper := [
  ⟨some 6, .move (.t 0), none, []⟩,
  ⟨some 7, .call false (.c (.fn 163 [])) [.t 6, .c (.d (.int .i64 3))], none, []⟩,
  ⟨some 3, .alloc 3 [.int .i64 0, .int .i64 0, .sl .nil []], none, []⟩,
  ⟨none, .store false 3 (.t 3) (.t 7), none, []⟩]
def r161_2 : List VOper := [
  ⟨some 4, .move (.t 3), none, []⟩]
def r161_3 : List VOper := [
  ⟨some 5, .move (.c (.d (.int .i64 0))), none, []⟩]
def r161_4 : List VOper := [
  ⟨some 8, .move (.t 5), none, []⟩,
  ⟨some 9, .bin .lss (.t 8) (.c (.d (.int .i64 3))), none, []⟩,
  ⟨some 10, .move (.t 9), none, []⟩,
  ⟨some 11, .move (.t 4), some (10, true), []⟩,
  ⟨some 12, .nilCheck (.t 11), some (10, true), []⟩,
  ⟨some 13, .fieldAddr 2 (.t 12), some (10, true), []⟩,
  ⟨some 14, .load false 1 (.t 13), some (10, true), []⟩,
  ⟨some 15, .len false (.t 14), some (10, true), []⟩,
  ⟨some 16, .bin .gtr (.t 15) (.c (.d (.int .i64 0))), some (10, true), []⟩,
  ⟨some 17, .pick (.t 10) (.t 16) (.c (.d (.bool false))), none, []⟩,
  ⟨some 18, .move (.t 17), none, []⟩,
  ⟨some 19, .move (.t 0), some (18, true), []⟩,
  ⟨some 20, .call false (.c (.fn 162 [])) [.t 19, .c (.d (.int .i64 2))], some (18, true), []⟩,
  ⟨some 21, .not (.t 20), some (18, true), []⟩,
  ⟨some 22, .pick (.t 18) (.t 21) (.c (.d (.bool false))), none, []⟩]
def r161_6 : List VOper := [
  ⟨some 25, .move (.t 4), none, []⟩,
  ⟨some 26, .nilCheck (.t 25), none, [0]⟩,
  ⟨some 27, .fieldAddr 2 (.t 26), none, [1]⟩,
  ⟨some 28, .loadS false 1 (.t 27) 0, none, [2]⟩,
  ⟨some 29, .move (.t 0), none, []⟩,
  ⟨some 30, .move (.t 4), none, []⟩,
  ⟨some 31, .nilCheck (.t 30), none, [5]⟩,
  ⟨some 32, .fieldAddr 2 (.t 31), none, [6]⟩,
  ⟨some 33, .load false 1 (.t 32), none, [7]⟩,
  ⟨some 34, .len false (.t 33), none, [8]⟩,
  ⟨some 35, .callS 0 (.c (.fn 159 [])) [.t 29, .t 34], none, [4, 9]⟩,
  ⟨some 36, .indexAddr 3 none (.t 28) (.t 35), none, [3, 10]⟩,
  ⟨some 4, .move (.t 36), none, [0, 1, 2, 3, 4, 5, 6, 7, 8, 9, 10, 11]⟩]
def r161_5 : List VOper := [
  ⟨some 23, .move (.t 5), none, []⟩,
  ⟨some 24, .bin .add (.t 23) (.c (.d (.int .i64 1))), none, []⟩,
  ⟨some 5, .move (.t 24), none, []⟩]
def b161_0 : VCode := (.seq (.seq (.region false 0 [0, 2, 3, 4, 5, 22] r161_4) (.cond (.t 22) .skip (.exit 0))) (.seq (.block 1 (.ghost (.focC 4 2 [0, 2, 3, 4, 5]) (.region true 0 [0, 2, 3, 4, 5] r161_6))) (.region false 0 [0, 2, 3, 4, 5] r161_5)))
def r161_7 : List VOper := [
  ⟨some 37, .move (.t 0), none, []⟩,
  ⟨some 38, .call false (.c (.fn 159 [])) [.t 37, .c (.d (.int .i64 12))], none, []⟩]
def r161_8 : List VOper := [
  ⟨some 40, .bin .eql (.t 38) (.c (.d (.int .i64 0))), none, []⟩,
  ⟨some 39, .move (.t 40), none, []⟩]
def r161_9 : List VOper := [
  ⟨some 41, .move (.t 4), none, []⟩,
  ⟨some 42, .move (.t 0), none, []⟩,
  ⟨some 43, .buildSlice 1 (.int .i64 0) 5 [(0, .c (.d (.int .i64 (-2)))), (1, .c (.d (.int .i64 (-1)))), (2, .c (.d (.int .i64 0))), (3, .c (.d (.int .i64 5))), (4, .c (.d (.int .i64 7)))], none, []⟩,
  ⟨some 44, .call false (.c (.fn 160 [])) [.t 42, .t 43], none, []⟩,
  ⟨some 45, .nilCheck (.t 41), none, []⟩,
  ⟨some 46, .fieldAddr 0 (.t 45), none, []⟩,
  ⟨none, .store false 1 (.t 46) (.t 44), none, []⟩]
def r161_10 : List VOper := [
  ⟨some 48, .bin .eql (.t 38) (.c (.d (.int .i64 1))), none, []⟩,
  ⟨some 47, .move (.t 48), none, []⟩]
def r161_11 : List VOper := [
  ⟨some 49, .move (.t 4), none, []⟩,
  ⟨some 50, .move (.t 0), none, []⟩,
  ⟨some 51, .buildSlice 1 (.int .i64 0) 4 [(0, .c (.d (.int .i64 (-1)))), (1, .c (.d (.int .i64 1))), (2, .c (.d (.int .i64 99))), (3, .c (.d (.int .i64 100)))], none, []⟩,
  ⟨some 52, .call false (.c (.fn 160 [])) [.t 50, .t 51], none, []⟩,
  ⟨some 53, .nilCheck (.t 49), none, []⟩,
  ⟨some 54, .fieldAddr 1 (.t 53), none, []⟩,
  ⟨none, .store false 1 (.t 54) (.t 52), none, []⟩]
def r161_12 : List VOper := [
  ⟨some 56, .bin .eql (.t 38) (.c (.d (.int .i64 2))), none, []⟩,
  ⟨some 55, .move (.t 56), none, []⟩]
def r161_13 : List VOper := [
  ⟨some 57, .move (.t 4), none, []⟩,
  ⟨some 58, .nilCheck (.t 57), none, [0]⟩,
  ⟨some 59, .fieldAddr 2 (.t 58), none, [1]⟩,
  ⟨some 60, .loadS false 1 (.t 59) 0, none, [2]⟩,
  ⟨some 61, .move (.t 0), none, []⟩,
  ⟨some 62, .callS 0 (.c (.fn 166 [])) [.t 61, .c (.d (.int .i64 1)), .c (.d (.int .i64 2))], none, [4]⟩,
  ⟨some 63, .len false (.t 60), none, [3]⟩,
  ⟨some 64, .buildSlice 3 (.agg [.int .i64 0, .int .i64 0, .sl .nil []]) 1 [(0, .c (.d (.agg [.int .i64 0, .int .i64 0, .sl .nil []])))], none, []⟩]
def r161_13_9 : List VOper := [
  ⟨some 65, .append1 3 40 (.t 60) (.t 64) (.t 63) (.t 62) 66, none, []⟩,
  ⟨some 67, .nilCheck (.t 57), none, []⟩,
  ⟨some 68, .fieldAddr 2 (.t 67), none, []⟩,
  ⟨none, .store false 1 (.t 68) (.t 65), none, []⟩]
def r161_14 : List VOper := [
  ⟨some 70, .bin .eql (.t 38) (.c (.d (.int .i64 3))), none, []⟩,
  ⟨some 69, .move (.t 70), none, []⟩]
def r161_15 : List VOper := [
  ⟨some 71, .move (.t 0), none, []⟩,
  ⟨some 72, .call false (.c (.fn 166 [])) [.t 71, .c (.d (.int .i64 3)), .c (.d (.int .i64 3))], none, []⟩,
  ⟨none, .store false 3 (.t 2) (.t 72), none, []⟩]
def r161_16 : List VOper := [
  ⟨some 73, .load true 3 (.t 3), none, []⟩,
  ⟨none, .store false 3 (.t 2) (.t 73), none, []⟩]
def v161 : VFn := ⟨1, [.cell 2 true 3], (.seq (.region false 1 [0, 2] r161_0) (.seq (.region false 4 [0, 2, 3] r161_1) (.seq (.region false 0 [0, 2, 3, 4] r161_2) (.seq (.seq (.region false 0 [0, 2, 3, 4, 5] r161_3) (.block 0 (.loop [0, 2, 3, 4, 5] b161_0))) (.seq (.seq (.region false 0 [0, 2, 3, 4, 38] r161_7) (.block 2 (.seq (.region false 0 [0, 2, 3, 4, 38, 39] r161_8) (.cond (.t 39) (.region false 0 [2, 3] r161_9) (.seq (.region false 0 [0, 2, 3, 4, 38, 47] r161_10) (.cond (.t 47) (.region false 0 [2, 3] r161_11) (.seq (.region false 0 [0, 2, 3, 4, 38, 55] r161_12) (.cond (.t 55) (.regionT 0 [2, 3] r161_13 r161_13_9) (.seq (.region false 0 [0, 2, 3, 69] r161_14) (.cond (.t 69) (.seq (.region false 0 [2] r161_15) .ret) .skip)))))))))) (.seq (.ghost (.frzB 3 2 [2]) (.region false 0 [2] r161_16)) .ret))))))⟩
/-! loop.example/g00461/spec.l1Once -/
def r162_0 : List VOper := [
  ⟨some 4, .move (.c (.d (.bool false))), none, []⟩]
def r162_1 : List VOper := [
  ⟨some 5, .move (.t 0), none, []⟩,
  ⟨some 6, .move (.t 1), none, []⟩,
  ⟨some 7, .call false (.c (.fn 159 [])) [.t 5, .t 6], none, []⟩,
  ⟨some 8, .bin .eql (.t 7) (.c (.d (.int .i64 0))), none, []⟩,
  ⟨some 4, .move (.t 8), none, []⟩]
def v162 : VFn := ⟨2, [.tmp 4], (.seq (.region false 0 [0, 1] r162_0) (.seq (.region false 0 [4] r162_1) .ret))⟩
/-! loop.example/g00461/spec.l3DrawRight -/
def r163_0 : List VOper := [
  ⟨some 4, .alloc 0 [.int .i64 0, .int .i64 0, .sl .nil []], none, []⟩]
def r163_1 : List VOper := [
  ⟨some 5, .call true (.c (.fn 155 [])) [], none, []⟩,
  ⟨some 6, .move (.t 0), none, []⟩,
  ⟨some 7, .move (.t 1), none, []⟩,
  ⟨some 8, .call false (.c (.fn 166 [])) [.t 6, .c (.d (.int .i64 2)), .t 7], none, []⟩,
  ⟨some 9, .call true (.c (.fn 153 [])) [.t 5, .t 8], none, []⟩,
  ⟨none, .store false 3 (.t 4) (.t 9), none, []⟩]
def v163 : VFn := ⟨2, [.cell 4 true 3], (.seq (.region false 1 [0, 1, 4] r163_0) (.seq (.region false 0 [4] r163_1) .ret))⟩
/-! loop.example/g00461/spec.l3Of -/
def r164_0 : List VOper := [
  ⟨some 4, .alloc 0 [.int .i64 0, .int .i64 0, .sl .nil []], none, []⟩]
def r164_1 : List VOper := [
  ⟨some 5, .move (.t 0), none, []⟩,
  ⟨some 6, .move (.t 1), none, []⟩,
  ⟨some 7, .build [.int .i64 0, .int .i64 0, .sl .nil []] [(0, 1, .t 5), (2, 1, .t 6)], none, []⟩,
  ⟨none, .store false 3 (.t 4) (.t 7), none, []⟩]
def v164 : VFn := ⟨2, [.cell 4 true 3], (.seq (.region false 1 [0, 1, 4] r164_0) (.seq (.region false 0 [4] r164_1) .ret))⟩
/-! loop.example/g00461/spec.l1Byte -/
def r165_0 : List VOper := [
  ⟨some 2, .move (.c (.d (.int .i64 0))), none, []⟩]
def r165_1 : List VOper := [
  ⟨some 4, .move (.t 0), none, []⟩,
  ⟨some 5, .move (.t 0), none, []⟩,
  ⟨some 6, .nilCheck (.t 5), none, []⟩,
  ⟨some 7, .fieldAddr 2 (.t 6), none, []⟩,
  ⟨some 8, .load false 1 (.t 7), none, []⟩,
  ⟨some 9, .bin .mul (.t 8) (.c (.d (.int .i64 6364136223846793005))), none, []⟩,
  ⟨some 10, .bin .add (.t 9) (.c (.d (.int .i64 1442695040888963407))), none, []⟩,
  ⟨some 11, .nilCheck (.t 4), none, []⟩,
  ⟨some 12, .fieldAddr 2 (.t 11), none, []⟩,
  ⟨none, .store false 1 (.t 12) (.t 10), none, []⟩]
def r165_2 : List VOper := [
  ⟨some 13, .move (.t 0), none, []⟩,
  ⟨some 14, .nilCheck (.t 13), none, [0]⟩,
  ⟨some 15, .fieldAddr 2 (.t 14), none, [1]⟩,
  ⟨some 16, .load false 1 (.t 15), none, [2]⟩,
  ⟨some 17, .bin .shr (.t 16) (.c (.d (.int .u64 33))), none, [3]⟩,
  ⟨some 18, .move (.t 0), none, []⟩,
  ⟨some 19, .nilCheck (.t 18), none, [5]⟩,
  ⟨some 20, .fieldAddr 2 (.t 19), none, [6]⟩,
  ⟨some 21, .load false 1 (.t 20), none, [7]⟩,
  ⟨some 22, .bin .shr (.t 21) (.c (.d (.int .u64 45))), none, [8]⟩,
  ⟨some 23, .bin .xor (.t 17) (.t 22), none, [4, 9]⟩,
  ⟨some 24, .bin .and (.t 23) (.c (.d (.int .i64 255))), none, [10]⟩,
  ⟨some 3, .move (.t 24), none, [0, 1, 2, 3, 4, 5, 6, 7, 8, 9, 10, 11]⟩]
def r165_3 : List VOper := [
  ⟨some 25, .move (.t 0), none, []⟩,
  ⟨some 26, .nilCheck (.t 25), none, [0]⟩,
  ⟨some 27, .fieldAddr 1 (.t 26), none, [1]⟩,
  ⟨some 28, .load false 1 (.t 27), none, [2]⟩,
  ⟨some 29, .move (.t 0), none, []⟩,
  ⟨some 30, .nilCheck (.t 29), none, [4]⟩,
  ⟨some 31, .fieldAddr 0 (.t 30), none, [5]⟩,
  ⟨some 32, .load false 1 (.t 31), none, [6]⟩,
  ⟨some 33, .len false (.t 32), none, [7]⟩,
  ⟨some 34, .bin .lss (.t 28) (.t 33), none, [3, 8]⟩]
def r165_4 : List VOper := [
  ⟨some 35, .move (.t 3), none, []⟩,
  ⟨some 36, .move (.t 0), none, []⟩,
  ⟨some 37, .nilCheck (.t 36), none, [1]⟩,
  ⟨some 38, .fieldAddr 0 (.t 37), none, [2]⟩,
  ⟨some 39, .load false 1 (.t 38), none, [3]⟩,
  ⟨some 40, .move (.t 0), none, []⟩,
  ⟨some 41, .nilCheck (.t 40), none, [5]⟩,
  ⟨some 42, .fieldAddr 1 (.t 41), none, [6]⟩,
  ⟨some 43, .load false 1 (.t 42), none, [7]⟩,
  ⟨some 44, .indexAddr 1 none (.t 39) (.t 43), none, [4, 8]⟩,
  ⟨some 45, .load false 1 (.t 44), none, [9]⟩,
  ⟨some 46, .conv (.kind .i64) (.t 45), none, [10]⟩,
  ⟨some 47, .bin .add (.t 35) (.t 46), none, [0, 11]⟩,
  ⟨some 48, .bin .and (.t 47) (.c (.d (.int .i64 255))), none, [12]⟩,
  ⟨some 3, .move (.t 48), none, [0, 1, 2, 3, 4, 5, 6, 7, 8, 9, 10, 11, 12, 13]⟩]
def r165_5 : List VOper := [
  ⟨some 49, .move (.t 0), none, []⟩,
  ⟨some 50, .move (.t 0), none, []⟩,
  ⟨some 51, .nilCheck (.t 50), none, []⟩,
  ⟨some 52, .fieldAddr 1 (.t 51), none, []⟩,
  ⟨some 53, .load false 1 (.t 52), none, []⟩,
  ⟨some 54, .bin .add (.t 53) (.c (.d (.int .i64 1))), none, []⟩,
  ⟨some 55, .nilCheck (.t 49), none, []⟩,
  ⟨some 56, .fieldAddr 1 (.t 55), none, []⟩,
  ⟨none, .store false 1 (.t 56) (.t 54), none, []⟩]
def r165_6 : List VOper := [
  ⟨some 57, .move (.t 3), none, []⟩,
  ⟨some 2, .move (.t 57), none, []⟩]
def v165 : VFn := ⟨1, [.tmp 2], (.seq (.region false 0 [0] r165_0) (.seq (.region false 0 [0] r165_1) (.seq (.region true 0 [0, 3] r165_2) (.seq (.seq (.region true 0 [0, 3, 34] r165_3) (.cond (.t 34) (.seq (.region true 0 [0, 3] r165_4) (.region false 0 [3] r165_5)) .skip)) (.seq (.region false 0 [2] r165_6) .ret)))))⟩
/-! loop.example/g00461/spec.l3DrawDeep -/
def r166_0 : List VOper := [
  ⟨some 6, .alloc 0 [.int .i64 0, .int .i64 0, .sl .nil []], none, []⟩]
def r166_1 : List VOper := [
  ⟨some 9, .move (.t 1), none, []⟩,
  ⟨some 10, .bin .eql (.t 9) (.c (.d (.int .i64 0))), none, []⟩,
  ⟨some 11, .move (.t 10), none, []⟩,
  ⟨some 12, .move (.t 0), some (11, false), []⟩,
  ⟨some 13, .call false (.c (.fn 162 [])) [.t 12, .c (.d (.int .i64 3))], some (11, false), []⟩,
  ⟨some 14, .pick (.t 11) (.c (.d (.bool true))) (.t 13), none, []⟩]
def r166_2 : List VOper := [
  ⟨some 15, .move (.t 2), none, []⟩,
  ⟨some 16, .bin .gtr (.t 15) (.c (.d (.int .i64 0))), none, []⟩,
  ⟨some 17, .move (.t 16), none, []⟩,
  ⟨some 18, .move (.t 0), some (17, true), []⟩,
  ⟨some 19, .call false (.c (.fn 162 [])) [.t 18, .c (.d (.int .i64 2))], some (17, true), []⟩,
  ⟨some 20, .pick (.t 17) (.t 19) (.c (.d (.bool false))), none, []⟩]
def r166_3 : List VOper := [
  ⟨some 21, .move (.t 0), none, []⟩,
  ⟨some 22, .move (.t 2), none, []⟩,
  ⟨some 23, .call false (.c (.fn 159 [])) [.t 21, .t 22], none, []⟩,
  ⟨some 24, .call true (.c (.fn 147 [])) [.t 23], none, []⟩,
  ⟨none, .store false 3 (.t 6) (.t 24), none, []⟩]
def r166_4 : List VOper := [
  ⟨some 25, .move (.t 0), none, []⟩,
  ⟨some 26, .call false (.c (.fn 159 [])) [.t 25, .c (.d (.int .i64 2))], none, []⟩,
  ⟨some 27, .bin .add (.c (.d (.int .i64 1))) (.t 26), none, []⟩,
  ⟨some 28, .build [.int .i64 0, .int .i64 0, .sl .nil []] [(0, 1, .t 27)], none, []⟩,
  ⟨none, .store false 3 (.t 6) (.t 28), none, []⟩]
def r166_5 : List VOper := [
  ⟨some 29, .move (.t 0), none, []⟩,
  ⟨some 30, .buildSlice 1 (.int .i64 0) 5 [(0, .c (.d (.int .i64 3))), (1, .c (.d (.int .i64 4))), (2, .c (.d (.int .i64 5))), (3, .c (.d (.int .i64 5))), (4, .c (.d (.int .i64 6)))], none, []⟩,
  ⟨some 31, .call false (.c (.fn 160 [])) [.t 29, .t 30], none, []⟩,
  ⟨some 7, .move (.t 31), none, []⟩]
def r166_6 : List VOper := [
  ⟨some 32, .move (.t 0), none, []⟩,
  ⟨some 33, .move (.t 1), none, []⟩,
  ⟨some 34, .bin .sub (.t 33) (.c (.d (.int .i64 1))), none, []⟩,
  ⟨some 35, .move (.t 2), none, []⟩,
  ⟨some 36, .call false (.c (.fn 166 [])) [.t 32, .t 34, .t 35], none, []⟩,
  ⟨some 37, .buildSlice 3 (.agg [.int .i64 0, .int .i64 0, .sl .nil []]) 1 [(0, .t 36)], none, []⟩,
  ⟨some 8, .move (.t 37), none, []⟩]
def r166_7 : List VOper := [
  ⟨some 38, .move (.t 7), none, []⟩,
  ⟨some 39, .bin .gtr (.t 38) (.c (.d (.int .i64 3))), none, []⟩]
def r166_8 : List VOper := [
  ⟨some 40, .move (.t 8), none, []⟩,
  ⟨some 41, .move (.t 0), none, []⟩,
  ⟨some 42, .move (.t 1), none, []⟩,
  ⟨some 43, .bin .sub (.t 42) (.c (.d (.int .i64 1))), none, []⟩,
  ⟨some 44, .move (.t 2), none, []⟩,
  ⟨some 45, .call false (.c (.fn 166 [])) [.t 41, .t 43, .t 44], none, []⟩,
  ⟨some 46, .buildSlice 3 (.agg [.int .i64 0, .int .i64 0, .sl .nil []]) 1 [(0, .t 45)], none, []⟩,
  ⟨some 47, .append 3 40 (.t 40) (.t 46), none, []⟩,
  ⟨some 8, .move (.t 47), none, []⟩]
def r166_9 : List VOper := [
  ⟨some 48, .move (.t 7), none, []⟩,
  ⟨some 49, .move (.t 8), none, []⟩,
  ⟨some 50, .call true (.c (.fn 164 [])) [.t 48, .t 49], none, []⟩,
  ⟨none, .store false 3 (.t 6) (.t 50), none, []⟩]
def v166 : VFn := ⟨3, [.cell 6 true 3], (.seq (.region false 1 [0, 1, 2, 6] r166_0) (.seq (.seq (.region false 0 [0, 1, 2, 6, 14] r166_1) (.cond (.t 14) (.seq (.seq (.region false 0 [0, 2, 6, 20] r166_2) (.cond (.t 20) (.seq (.region false 0 [6] r166_3) .ret) .skip)) (.seq (.region false 0 [6] r166_4) .ret)) .skip)) (.seq (.region false 0 [0, 1, 2, 6, 7] r166_5) (.seq (.region false 0 [0, 1, 2, 6, 7, 8] r166_6) (.seq (.seq (.region false 0 [0, 1, 2, 6, 7, 8, 39] r166_7) (.cond (.t 39) (.region false 0 [6, 7, 8] r166_8) .skip)) (.seq (.region false 0 [6] r166_9) .ret))))))⟩
/-! loop.example/g00461/spec.DrawVarsOf -/
def r184_0 : List VOper := [
  ⟨some 2, .alloc 0 [.int .i64 0, .int .i64 0, .sl .nil []], none, []⟩]
def r184_1 : List VOper := [
  ⟨some 3, .move (.t 0), none, []⟩,
  ⟨some 4, .call false (.c (.fn 156 [])) [.t 3], none, []⟩,
  ⟨some 5, .callS 4 (.c (.fn 161 [])) [.t 4], none, []⟩,
  ⟨none, .store false 3 (.t 2) (.t 5), none, []⟩]
def v184 : VFn := ⟨1, [.cell 2 true 3], (.seq (.region false 1 [0, 2] r184_0) (.seq (.region false 0 [2] r184_1) .ret))⟩
/-! loop.example/g00461/laws.sameInts -/
def r188_0 : List VOper := [
  ⟨some 4, .move (.c (.d (.bool false))), none, []⟩]
def r188_1 : List VOper := [
  ⟨some 6, .move (.t 0), none, []⟩,
  ⟨some 7, .len false (.t 6), none, []⟩,
  ⟨some 8, .move (.t 1), none, []⟩,
  ⟨some 9, .len false (.t 8), none, []⟩,
  ⟨some 10, .bin .neq (.t 7) (.t 9), none, []⟩]
def r188_2 : List VOper := [
  ⟨some 4, .move (.c (.d (.bool false))), none, []⟩]
def r188_3 : List VOper := [
  ⟨some 5, .move (.c (.d (.int .i64 0))), none, []⟩]
def r188_4 : List VOper := [
  ⟨some 11, .move (.t 5), none, []⟩,
  ⟨some 12, .move (.t 0), none, []⟩,
  ⟨some 13, .len false (.t 12), none, []⟩,
  ⟨some 14, .bin .lss (.t 11) (.t 13), none, []⟩]
def r188_6 : List VOper := [
  ⟨some 17, .move (.t 0), none, []⟩,
  ⟨some 18, .move (.t 5), none, []⟩,
  ⟨some 19, .indexAddr 1 none (.t 17) (.t 18), none, [0, 1]⟩,
  ⟨some 20, .load false 1 (.t 19), none, [2]⟩,
  ⟨some 21, .move (.t 1), none, []⟩,
  ⟨some 22, .move (.t 5), none, []⟩,
  ⟨some 23, .indexAddr 1 none (.t 21) (.t 22), none, [4, 5]⟩,
  ⟨some 24, .load false 1 (.t 23), none, [6]⟩,
  ⟨some 25, .bin .neq (.t 20) (.t 24), none, [3, 7]⟩]
def r188_7 : List VOper := [
  ⟨some 4, .move (.c (.d (.bool false))), none, []⟩]
def r188_5 : List VOper := [
  ⟨some 15, .move (.t 5), none, []⟩,
  ⟨some 16, .bin .add (.t 15) (.c (.d (.int .i64 1))), none, []⟩,
  ⟨some 5, .move (.t 16), none, []⟩]
def b188_0 : VCode := (.seq (.seq (.region false 0 [0, 1, 5, 14] r188_4) (.cond (.t 14) .skip (.exit 0))) (.seq (.block 1 (.seq (.region true 0 [0, 1, 5, 25] r188_6) (.cond (.t 25) (.seq (.region false 0 [4] r188_7) .ret) .skip))) (.region false 0 [0, 1, 5] r188_5)))
def r188_8 : List VOper := [
  ⟨some 4, .move (.c (.d (.bool true))), none, []⟩]
def v188 : VFn := ⟨2, [.tmp 4], (.seq (.region false 0 [0, 1] r188_0) (.seq (.seq (.region false 0 [0, 1, 10] r188_1) (.cond (.t 10) (.seq (.region false 0 [4] r188_2) .ret) .skip)) (.seq (.seq (.region false 0 [0, 1, 5] r188_3) (.block 0 (.loop [0, 1, 5] b188_0))) (.seq (.region false 0 [4] r188_8) .ret))))⟩
/-! loop.example/g00461/laws.FnCounts -/
def r362_0 : List VOper := [
  ⟨some 2, .move (.c (.d (.bool false))), none, []⟩]
def r362_1 : List VOper := [
  ⟨some 7, .move (.t 0), none, []⟩,
  ⟨some 8, .call true (.c (.fn 133 [])) [.t 7], none, []⟩]
def r362_2 : List VOper := [
  ⟨some 2, .move (.c (.d (.bool true))), none, []⟩]
def r362_3 : List VOper := [
  ⟨some 9, .move (.t 0), none, []⟩,
  ⟨some 10, .call true (.c (.fn 184 [])) [.t 9], none, []⟩,
  ⟨some 3, .alloc 0 [.int .i64 0, .int .i64 0, .sl .nil []], none, []⟩,
  ⟨none, .store false 3 (.t 3) (.t 10), none, []⟩]
def r362_4 : List VOper := [
  ⟨some 11, .load true 3 (.t 3), none, []⟩,
  ⟨some 12, .call true (.c (.fn 104 [])) [.t 11], none, []⟩,
  ⟨some 4, .move (.t 12), none, []⟩]
def r362_5 : List VOper := [
  ⟨some 13, .move (.t 4), none, []⟩,
  ⟨some 14, .load true 3 (.t 3), none, []⟩,
  ⟨some 15, .call true (.c (.fn 110 [])) [.t 14], none, []⟩,
  ⟨some 16, .call true (.c (.fn 188 [])) [.t 13, .t 15], none, []⟩,
  ⟨some 17, .not (.t 16), none, []⟩,
  ⟨some 18, .move (.t 17), none, []⟩,
  ⟨some 19, .load true 3 (.t 3), some (18, false), []⟩,
  ⟨some 20, .call true (.c (.fn 103 [])) [.t 19], some (18, false), []⟩,
  ⟨some 21, .move (.t 4), some (18, false), []⟩,
  ⟨some 22, .len false (.t 21), some (18, false), []⟩,
  ⟨some 23, .bin .eql (.t 22) (.c (.d (.int .i64 0))), some (18, false), []⟩,
  ⟨some 24, .eqB true (.t 20) (.t 23), some (18, false), []⟩,
  ⟨some 25, .pick (.t 18) (.c (.d (.bool true))) (.t 24), none, []⟩]
def r362_6 : List VOper := [
  ⟨some 2, .move (.c (.d (.bool false))), none, []⟩]
def r362_7 : List VOper := [
  ⟨some 5, .move (.c (.d (.int .i64 0))), none, []⟩]
def r362_8 : List VOper := [
  ⟨some 6, .move (.c (.d (.int .i64 0))), none, []⟩]
def r362_9 : List VOper := [
  ⟨some 26, .move (.t 6), none, []⟩,
  ⟨some 27, .move (.t 4), none, []⟩,
  ⟨some 28, .len false (.t 27), none, []⟩,
  ⟨some 29, .bin .lss (.t 26) (.t 28), none, []⟩]
def r362_11 : List VOper := [
  ⟨some 32, .load true 3 (.t 3), none, []⟩,
  ⟨some 33, .move (.t 4), none, []⟩,
  ⟨some 34, .move (.t 6), none, []⟩,
  ⟨some 35, .indexAddr 1 none (.t 33) (.t 34), none, [1, 2]⟩,
  ⟨some 36, .load false 1 (.t 35), none, [3]⟩,
  ⟨some 37, .call true (.c (.fn 73 [])) [.t 32, .t 36], none, [0, 4]⟩,
  ⟨some 38, .bin .lss (.t 37) (.c (.d (.int .i64 1))), none, [5]⟩,
  ⟨some 39, .move (.t 38), none, [5, 6]⟩,
  ⟨some 40, .move (.t 6), some (39, false), [7]⟩,
  ⟨some 41, .bin .gtr (.t 40) (.c (.d (.int .i64 0))), some (39, false), [7, 8]⟩,
  ⟨some 42, .move (.t 41), some (39, false), [7, 9]⟩,
  ⟨some 43, .move (.t 4), some (42, true), [10]⟩,
  ⟨some 44, .move (.t 6), some (42, true), [10]⟩,
  ⟨some 45, .bin .sub (.t 44) (.c (.d (.int .i64 1))), some (42, true), [10, 12]⟩,
  ⟨some 46, .indexAddr 1 none (.t 43) (.t 45), some (42, true), [10, 11, 13]⟩,
  ⟨some 47, .load false 1 (.t 46), some (42, true), [10, 14]⟩,
  ⟨some 48, .move (.t 4), some (42, true), [10]⟩,
  ⟨some 49, .move (.t 6), some (42, true), [10]⟩,
  ⟨some 50, .indexAddr 1 none (.t 48) (.t 49), some (42, true), [10, 16, 17]⟩,
  ⟨some 51, .load false 1 (.t 50), some (42, true), [10, 18]⟩,
  ⟨some 52, .bin .geq (.t 47) (.t 51), some (42, true), [10, 15, 19]⟩,
  ⟨some 53, .pick (.t 42) (.t 52) (.c (.d (.bool false))), some (39, false), [7, 10, 20]⟩,
  ⟨some 54, .pick (.t 39) (.c (.d (.bool true))) (.t 53), none, [7, 21]⟩]
def r362_12 : List VOper := [
  ⟨some 2, .move (.c (.d (.bool false))), none, []⟩]
def r362_13 : List VOper := [
  ⟨some 55, .move (.t 5), none, []⟩,
  ⟨some 56, .load true 3 (.t 3), none, []⟩,
  ⟨some 57, .move (.t 4), none, []⟩,
  ⟨some 58, .move (.t 6), none, []⟩,
  ⟨some 59, .indexAddr 1 none (.t 57) (.t 58), none, [2, 3]⟩,
  ⟨some 60, .load false 1 (.t 59), none, [4]⟩,
  ⟨some 61, .call true (.c (.fn 73 [])) [.t 56, .t 60], none, [1, 5]⟩,
  ⟨some 62, .bin .add (.t 55) (.t 61), none, [0, 6]⟩,
  ⟨some 5, .move (.t 62), none, [0, 1, 2, 3, 4, 5, 6, 7]⟩]
def r362_10 : List VOper := [
  ⟨some 30, .move (.t 6), none, []⟩,
  ⟨some 31, .bin .add (.t 30) (.c (.d (.int .i64 1))), none, []⟩,
  ⟨some 6, .move (.t 31), none, []⟩]
def b362_0 : VCode := (.seq (.seq (.region false 0 [3, 4, 5, 6, 29] r362_9) (.cond (.t 29) .skip (.exit 0))) (.seq (.block 1 (.seq (.seq (.region true 0 [3, 4, 5, 6, 54] r362_11) (.cond (.t 54) (.seq (.region false 0 [2] r362_12) .ret) .skip)) (.region true 0 [3, 4, 5, 6] r362_13))) (.region false 0 [3, 4, 5, 6] r362_10)))
def r362_14 : List VOper := [
  ⟨some 63, .move (.t 5), none, []⟩,
  ⟨some 64, .load true 3 (.t 3), none, []⟩,
  ⟨some 65, .call true (.c (.fn 23 [])) [.t 64], none, []⟩,
  ⟨some 66, .bin .leq (.t 63) (.t 65), none, []⟩,
  ⟨some 2, .move (.t 66), none, []⟩]
def v362 : VFn := ⟨1, [.tmp 2], (.seq (.region false 0 [0] r362_0) (.seq (.seq (.region false 0 [0, 8] r362_1) (.cond (.t 8) (.seq (.region false 0 [2] r362_2) .ret) .skip)) (.seq (.region false 1 [3] r362_3) (.seq (.region false 0 [3, 4] r362_4) (.seq (.seq (.region false 0 [3, 4, 25] r362_5) (.cond (.t 25) (.seq (.region false 0 [2] r362_6) .ret) .skip)) (.seq (.region false 0 [3, 4, 5] r362_7) (.seq (.seq (.region false 0 [3, 4, 5, 6] r362_8) (.block 0 (.loop [3, 4, 5, 6] b362_0))) (.seq (.region false 0 [2] r362_14) .ret))))))))⟩
def look : List (Nat × VFn) → Nat → Option VFn
  | [], _ => none
  | (k, v) :: r, n => if n = k then some v else look r n
def codes : List (Nat × VFn) := [(3, v3), (23, v23), (24, v24), (25, v25), (31, v31), (33, v33), (47, v47), (53, v53), (54, v54), (55, v55), (56, v56), (73, v73), (74, v74), (75, v75), (84, v84), (103, v103), (104, v104), (105, v105), (106, v106), (107, v107), (108, v108), (110, v110), (111, v111), (112, v112), (133, v133), (147, v147), (153, v153), (154, v154), (155, v155), (156, v156), (159, v159), (160, v160), (161, v161), (162, v162), (163, v163), (164, v164), (165, v165), (166, v166), (184, v184), (188, v188), (362, v362)]
def specs : List (Nat × SFn) := []
def bases : List (Nat × Nat) := [(161, 1)]
def lookB : List (Nat × Nat) → Nat → Option Nat
  | [], _ => none
  | (k, v) :: r, n => if n = k then some v else lookB r n
def nats : List (Nat × (List DV → Option DV)) := [(106, numAddD)]
def E : Env := ⟨look codes, fun k => (lookN nats k).map natV, lookS specs, lookB bases⟩
theorem code_3 : E.code 3 = some v3 := by kernel_rfl
theorem code_23 : E.code 23 = some v23 := by kernel_rfl
theorem code_24 : E.code 24 = some v24 := by kernel_rfl
theorem code_25 : E.code 25 = some v25 := by kernel_rfl
theorem code_31 : E.code 31 = some v31 := by kernel_rfl
theorem code_33 : E.code 33 = some v33 := by kernel_rfl
theorem code_47 : E.code 47 = some v47 := by kernel_rfl
theorem code_53 : E.code 53 = some v53 := by kernel_rfl
theorem code_54 : E.code 54 = some v54 := by kernel_rfl
theorem code_55 : E.code 55 = some v55 := by kernel_rfl
theorem code_56 : E.code 56 = some v56 := by kernel_rfl
theorem code_73 : E.code 73 = some v73 := by kernel_rfl
theorem code_74 : E.code 74 = some v74 := by kernel_rfl
theorem code_75 : E.code 75 = some v75 := by kernel_rfl
theorem code_84 : E.code 84 = some v84 := by kernel_rfl
theorem code_103 : E.code 103 = some v103 := by kernel_rfl
theorem code_104 : E.code 104 = some v104 := by kernel_rfl
theorem code_105 : E.code 105 = some v105 := by kernel_rfl
theorem code_106 : E.code 106 = some v106 := by kernel_rfl
theorem code_107 : E.code 107 = some v107 := by kernel_rfl
theorem code_108 : E.code 108 = some v108 := by kernel_rfl
theorem code_110 : E.code 110 = some v110 := by kernel_rfl
theorem code_111 : E.code 111 = some v111 := by kernel_rfl
theorem code_112 : E.code 112 = some v112 := by kernel_rfl
theorem code_133 : E.code 133 = some v133 := by kernel_rfl
theorem code_147 : E.code 147 = some v147 := by kernel_rfl
theorem code_153 : E.code 153 = some v153 := by kernel_rfl
theorem code_154 : E.code 154 = some v154 := by kernel_rfl
theorem code_155 : E.code 155 = some v155 := by kernel_rfl
theorem code_156 : E.code 156 = some v156 := by kernel_rfl
theorem code_159 : E.code 159 = some v159 := by kernel_rfl
theorem code_160 : E.code 160 = some v160 := by kernel_rfl
theorem code_161 : E.code 161 = some v161 := by kernel_rfl
theorem code_162 : E.code 162 = some v162 := by kernel_rfl
theorem code_163 : E.code 163 = some v163 := by kernel_rfl
theorem code_164 : E.code 164 = some v164 := by kernel_rfl
theorem code_165 : E.code 165 = some v165 := by kernel_rfl
theorem code_166 : E.code 166 = some v166 := by kernel_rfl
theorem code_184 : E.code 184 = some v184 := by kernel_rfl
theorem code_188 : E.code 188 = some v188 := by kernel_rfl
theorem code_362 : E.code 362 = some v362 := by kernel_rfl
end Go.Proofs.Ytidlpcgcolcfgaa.VS
