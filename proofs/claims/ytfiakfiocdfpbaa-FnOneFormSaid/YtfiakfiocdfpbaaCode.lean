/- The code of the functions that the laws reach, for the evaluator. -/
import Derived.Test.YtfiakfiocdfpbaaNat0
import Derived.KernelRfl
namespace Go.Proofs.Ytfiakfiocdfpbaa.VS
set_option linter.unusedVariables false
/-! loop.example/g00461/spec.TermSame -/
def r3_0 : List VOper := [
  ⟨some 2, .box 0 (.t 0), none, []⟩,
  ⟨some 3, .box 1 (.t 1), none, []⟩,
  ⟨some 4, .move (.c (.d (.bool false))), none, []⟩]
def r3_1 : List VOper := [
  ⟨some 6, .fieldAddr 0 (.t 2), none, []⟩,
  ⟨some 7, .load false 1 (.t 6), none, []⟩,
  ⟨some 8, .fieldAddr 0 (.t 3), none, []⟩,
  ⟨some 9, .load false 1 (.t 8), none, []⟩,
  ⟨some 10, .bin .neq (.t 7) (.t 9), none, []⟩,
  ⟨some 11, .move (.t 10), none, []⟩,
  ⟨some 12, .fieldAddr 1 (.t 2), some (11, false), []⟩,
  ⟨some 13, .load false 1 (.t 12), some (11, false), []⟩,
  ⟨some 14, .fieldAddr 1 (.t 3), some (11, false), []⟩,
  ⟨some 15, .load false 1 (.t 14), some (11, false), []⟩,
  ⟨some 16, .bin .neq (.t 13) (.t 15), some (11, false), []⟩,
  ⟨some 17, .pick (.t 11) (.c (.d (.bool true))) (.t 16), none, []⟩,
  ⟨some 18, .move (.t 17), none, []⟩,
  ⟨some 19, .fieldAddr 2 (.t 2), some (18, false), []⟩,
  ⟨some 20, .load false 1 (.t 19), some (18, false), []⟩,
  ⟨some 21, .len false (.t 20), some (18, false), []⟩,
  ⟨some 22, .fieldAddr 2 (.t 3), some (18, false), []⟩,
  ⟨some 23, .load false 1 (.t 22), some (18, false), []⟩,
  ⟨some 24, .len false (.t 23), some (18, false), []⟩,
  ⟨some 25, .bin .neq (.t 21) (.t 24), some (18, false), []⟩,
  ⟨some 26, .pick (.t 18) (.c (.d (.bool true))) (.t 25), none, []⟩]
def r3_2 : List VOper := [
  ⟨some 4, .move (.c (.d (.bool false))), none, []⟩]
def r3_3 : List VOper := [
  ⟨some 5, .move (.c (.d (.int .i64 0))), none, []⟩]
def r3_4 : List VOper := [
  ⟨some 27, .move (.t 5), none, []⟩,
  ⟨some 28, .fieldAddr 2 (.t 2), none, []⟩,
  ⟨some 29, .load false 1 (.t 28), none, []⟩,
  ⟨some 30, .len false (.t 29), none, []⟩,
  ⟨some 31, .bin .lss (.t 27) (.t 30), none, []⟩]
def r3_6 : List VOper := [
  ⟨some 34, .fieldAddr 2 (.t 2), none, []⟩,
  ⟨some 35, .load false 1 (.t 34), none, [0]⟩,
  ⟨some 36, .move (.t 5), none, []⟩,
  ⟨some 37, .indexAddr 3 none (.t 35) (.t 36), none, [1, 2]⟩,
  ⟨some 38, .load true 3 (.t 37), none, [3]⟩,
  ⟨some 39, .fieldAddr 2 (.t 3), none, []⟩,
  ⟨some 40, .load false 1 (.t 39), none, [5]⟩,
  ⟨some 41, .move (.t 5), none, []⟩,
  ⟨some 42, .indexAddr 3 none (.t 40) (.t 41), none, [6, 7]⟩,
  ⟨some 43, .load true 3 (.t 42), none, [8]⟩,
  ⟨some 44, .call true (.c (.fn 3 [])) [.t 38, .t 43], none, [4, 9]⟩,
  ⟨some 45, .not (.t 44), none, [10]⟩]
def r3_7 : List VOper := [
  ⟨some 4, .move (.c (.d (.bool false))), none, []⟩]
def r3_5 : List VOper := [
  ⟨some 32, .move (.t 5), none, []⟩,
  ⟨some 33, .bin .add (.t 32) (.c (.d (.int .i64 1))), none, []⟩,
  ⟨some 5, .move (.t 33), none, []⟩]
def b3_0 : VCode := (.seq (.seq (.region false 0 [2, 3, 5, 31] r3_4) (.cond (.t 31) .skip (.exit 0))) (.seq (.block 1 (.seq (.region true 0 [2, 3, 5, 45] r3_6) (.cond (.t 45) (.seq (.region false 0 [4] r3_7) .ret) .skip))) (.region false 0 [2, 3, 5] r3_5)))
def r3_8 : List VOper := [
  ⟨some 4, .move (.c (.d (.bool true))), none, []⟩]
def v3 : VFn := ⟨2, [.tmp 4], (.seq (.region false 2 [2, 3] r3_0) (.seq (.seq (.region false 0 [2, 3, 26] r3_1) (.cond (.t 26) (.seq (.region false 0 [4] r3_2) .ret) .skip)) (.seq (.seq (.region false 0 [2, 3, 5] r3_3) (.block 0 (.loop [2, 3, 5] b3_0))) (.seq (.region false 0 [4] r3_8) .ret))))⟩
/-! loop.example/g00461/impl.TermSame -/
def r4_0 : List VOper := [
  ⟨some 2, .box 0 (.t 0), none, []⟩,
  ⟨some 3, .box 1 (.t 1), none, []⟩,
  ⟨some 4, .move (.c (.d (.bool false))), none, []⟩]
def r4_1 : List VOper := [
  ⟨some 5, .load true 3 (.t 2), none, []⟩,
  ⟨some 6, .load true 3 (.t 3), none, []⟩,
  ⟨some 7, .call true (.c (.fn 6 [])) [.t 5, .t 6], none, []⟩,
  ⟨some 8, .bin .eql (.t 7) (.c (.d (.int .i64 0))), none, []⟩,
  ⟨some 4, .move (.t 8), none, []⟩]
def v4 : VFn := ⟨2, [.tmp 4], (.seq (.region false 2 [2, 3] r4_0) (.seq (.region false 0 [4] r4_1) .ret))⟩
/-! loop.example/g00461/impl.compare -/
def r6_0 : List VOper := [
  ⟨some 2, .box 0 (.t 0), none, []⟩,
  ⟨some 3, .box 1 (.t 1), none, []⟩,
  ⟨some 4, .move (.c (.d (.int .i64 0))), none, []⟩]
def r6_1 : List VOper := [
  ⟨some 9, .fieldAddr 0 (.t 2), none, []⟩,
  ⟨some 10, .load false 1 (.t 9), none, []⟩,
  ⟨some 11, .fieldAddr 0 (.t 3), none, []⟩,
  ⟨some 12, .load false 1 (.t 11), none, []⟩,
  ⟨some 13, .build [.int .i64 0, .int .i64 0] [(0, 1, .t 10), (1, 1, .t 12)], none, []⟩,
  ⟨some 14, .fieldAddr 1 (.t 2), none, []⟩,
  ⟨some 15, .load false 1 (.t 14), none, []⟩,
  ⟨some 16, .fieldAddr 1 (.t 3), none, []⟩,
  ⟨some 17, .load false 1 (.t 16), none, []⟩,
  ⟨some 18, .build [.int .i64 0, .int .i64 0] [(0, 1, .t 15), (1, 1, .t 17)], none, []⟩,
  ⟨some 19, .fieldAddr 2 (.t 2), none, []⟩,
  ⟨some 20, .load false 1 (.t 19), none, []⟩,
  ⟨some 21, .len false (.t 20), none, []⟩,
  ⟨some 22, .fieldAddr 2 (.t 3), none, []⟩,
  ⟨some 23, .load false 1 (.t 22), none, []⟩,
  ⟨some 24, .len false (.t 23), none, []⟩,
  ⟨some 25, .build [.int .i64 0, .int .i64 0] [(0, 1, .t 21), (1, 1, .t 24)], none, []⟩,
  ⟨some 26, .buildSlice 2 (.agg [.int .i64 0, .int .i64 0]) 3 [(0, .t 13), (1, .t 18), (2, .t 25)], none, []⟩,
  ⟨some 27, .len false (.t 26), none, []⟩,
  ⟨some 28, .move (.c (.d (.int .i64 0))), none, []⟩]
def r6_2 : List VOper := [
  ⟨some 29, .bin .lss (.t 28) (.t 27), none, []⟩]
def r6_3 : List VOper := [
  ⟨some 30, .indexAddr 2 none (.t 26) (.t 28), none, []⟩,
  ⟨some 31, .load true 2 (.t 30), none, []⟩,
  ⟨some 6, .alloc 0 [.int .i64 0, .int .i64 0], none, []⟩,
  ⟨none, .store false 2 (.t 6) (.t 31), none, []⟩]
def r6_4 : List VOper := [
  ⟨some 33, .indexAddr 1 (some 2) (.t 6) (.c (.d (.int .i64 0))), none, []⟩,
  ⟨some 34, .load false 1 (.t 33), none, []⟩,
  ⟨some 35, .indexAddr 1 (some 2) (.t 6) (.c (.d (.int .i64 1))), none, []⟩,
  ⟨some 36, .load false 1 (.t 35), none, []⟩,
  ⟨some 37, .bin .lss (.t 34) (.t 36), none, []⟩,
  ⟨some 32, .move (.t 37), none, []⟩]
def r6_5 : List VOper := [
  ⟨some 4, .move (.c (.d (.int .i64 (-1)))), none, []⟩]
def r6_6 : List VOper := [
  ⟨some 39, .indexAddr 1 (some 2) (.t 6) (.c (.d (.int .i64 0))), none, []⟩,
  ⟨some 40, .load false 1 (.t 39), none, []⟩,
  ⟨some 41, .indexAddr 1 (some 2) (.t 6) (.c (.d (.int .i64 1))), none, []⟩,
  ⟨some 42, .load false 1 (.t 41), none, []⟩,
  ⟨some 43, .bin .gtr (.t 40) (.t 42), none, []⟩,
  ⟨some 38, .move (.t 43), none, []⟩]
def r6_7 : List VOper := [
  ⟨some 4, .move (.c (.d (.int .i64 1))), none, []⟩]
def r6_8 : List VOper := [
  ⟨some 44, .bin .add (.t 28) (.c (.d (.int .i64 1))), none, []⟩,
  ⟨some 28, .move (.t 44), none, []⟩]
def b6_0 : VCode := (.seq (.region false 0 [2, 3, 26, 27, 28, 29] r6_2) (.seq (.cond (.t 29) .skip (.exit 0)) (.seq (.block 1 (.seq (.region false 1 [2, 3, 6, 26, 27, 28] r6_3) (.block 2 (.seq (.region false 0 [2, 3, 6, 26, 27, 28, 32] r6_4) (.cond (.t 32) (.seq (.region false 0 [4] r6_5) .ret) (.seq (.region false 0 [2, 3, 26, 27, 28, 38] r6_6) (.cond (.t 38) (.seq (.region false 0 [4] r6_7) .ret) .skip))))))) (.region false 0 [2, 3, 26, 27, 28] r6_8))))
def r6_9 : List VOper := [
  ⟨some 45, .fieldAddr 2 (.t 2), none, []⟩,
  ⟨some 46, .load false 1 (.t 45), none, []⟩,
  ⟨some 47, .len false (.t 46), none, []⟩,
  ⟨some 48, .move (.c (.d (.int .i64 0))), none, []⟩]
def r6_10 : List VOper := [
  ⟨some 49, .bin .lss (.t 48) (.t 47), none, []⟩]
def r6_11 : List VOper := [
  ⟨some 50, .move (.t 48), none, []⟩,
  ⟨some 7, .move (.t 50), none, []⟩]
def r6_12 : List VOper := [
  ⟨some 51, .fieldAddr 2 (.t 2), none, []⟩,
  ⟨some 52, .load false 1 (.t 51), none, [0]⟩,
  ⟨some 53, .move (.t 7), none, []⟩,
  ⟨some 54, .indexAddr 3 none (.t 52) (.t 53), none, [1, 2]⟩,
  ⟨some 55, .load true 3 (.t 54), none, [3]⟩,
  ⟨some 56, .fieldAddr 2 (.t 3), none, []⟩,
  ⟨some 57, .load false 1 (.t 56), none, [5]⟩,
  ⟨some 58, .move (.t 7), none, []⟩,
  ⟨some 59, .indexAddr 3 none (.t 57) (.t 58), none, [6, 7]⟩,
  ⟨some 60, .load true 3 (.t 59), none, [8]⟩,
  ⟨some 61, .call true (.c (.fn 6 [])) [.t 55, .t 60], none, [4, 9]⟩,
  ⟨some 8, .move (.t 61), none, [0, 1, 2, 3, 4, 5, 6, 7, 8, 9, 10]⟩]
def r6_13 : List VOper := [
  ⟨some 62, .move (.t 8), none, []⟩,
  ⟨some 63, .bin .neq (.t 62) (.c (.d (.int .i64 0))), none, []⟩]
def r6_14 : List VOper := [
  ⟨some 64, .move (.t 8), none, []⟩,
  ⟨some 4, .move (.t 64), none, []⟩]
def r6_15 : List VOper := [
  ⟨some 65, .bin .add (.t 48) (.c (.d (.int .i64 1))), none, []⟩,
  ⟨some 48, .move (.t 65), none, []⟩]
def b6_1 : VCode := (.seq (.region false 0 [2, 3, 47, 48, 49] r6_10) (.seq (.cond (.t 49) .skip (.exit 3)) (.seq (.block 4 (.seq (.region false 0 [2, 3, 7, 47, 48] r6_11) (.seq (.region true 0 [2, 3, 8, 47, 48] r6_12) (.seq (.region false 0 [2, 3, 8, 47, 48, 63] r6_13) (.cond (.t 63) (.seq (.region false 0 [4] r6_14) .ret) .skip))))) (.region false 0 [2, 3, 47, 48] r6_15))))
def r6_16 : List VOper := [
  ⟨some 4, .move (.c (.d (.int .i64 0))), none, []⟩]
def v6 : VFn := ⟨2, [.tmp 4], (.seq (.region false 2 [2, 3] r6_0) (.seq (.seq (.region false 0 [2, 3, 26, 27, 28] r6_1) (.block 0 (.loop [2, 3, 26, 27, 28] b6_0))) (.seq (.seq (.region false 0 [2, 3, 47, 48] r6_9) (.block 3 (.loop [2, 3, 47, 48] b6_1))) (.seq (.region false 0 [4] r6_16) .ret))))⟩
/-! loop.example/g00461/impl.isSym -/
def r29_0 : List VOper := [
  ⟨some 4, .move (.c (.d (.bool false))), none, []⟩]
def r29_1 : List VOper := [
  ⟨some 5, .move (.t 1), none, []⟩,
  ⟨some 6, .move (.t 0), none, []⟩,
  ⟨some 7, .len false (.t 6), none, []⟩,
  ⟨some 8, .bin .sub (.t 7) (.c (.d (.int .i64 1))), none, []⟩,
  ⟨some 9, .call true (.c (.fn 30 [])) [.t 5, .c (.d (.int .i64 0)), .t 8], none, []⟩,
  ⟨some 4, .move (.t 9), none, []⟩]
def v29 : VFn := ⟨2, [.tmp 4], (.seq (.region false 0 [0, 1] r29_0) (.seq (.region false 0 [4] r29_1) .ret))⟩
/-! loop.example/g00461/impl.from -/
def r30_0 : List VOper := [
  ⟨some 6, .move (.c (.d (.bool false))), none, []⟩]
def r30_1 : List VOper := [
  ⟨some 7, .move (.t 0), none, []⟩,
  ⟨some 8, .move (.t 1), none, []⟩,
  ⟨some 9, .bin .geq (.t 7) (.t 8), none, []⟩,
  ⟨some 10, .move (.t 9), none, []⟩,
  ⟨some 11, .move (.t 0), some (10, true), []⟩,
  ⟨some 12, .move (.t 2), some (10, true), []⟩,
  ⟨some 13, .bin .leq (.t 11) (.t 12), some (10, true), []⟩,
  ⟨some 14, .pick (.t 10) (.t 13) (.c (.d (.bool false))), none, []⟩,
  ⟨some 6, .move (.t 14), none, []⟩]
def v30 : VFn := ⟨3, [.tmp 6], (.seq (.region false 0 [0, 1, 2] r30_0) (.seq (.region false 0 [6] r30_1) .ret))⟩
/-! loop.example/g00461/spec.l1In -/
def r31_0 : List VOper := [
  ⟨some 6, .move (.c (.d (.bool false))), none, []⟩]
def r31_1 : List VOper := [
  ⟨some 7, .move (.t 0), none, []⟩,
  ⟨some 8, .move (.t 1), none, []⟩,
  ⟨some 9, .bin .geq (.t 7) (.t 8), none, []⟩,
  ⟨some 10, .move (.t 9), none, []⟩,
  ⟨some 11, .move (.t 0), some (10, true), []⟩,
  ⟨some 12, .move (.t 2), some (10, true), []⟩,
  ⟨some 13, .bin .leq (.t 11) (.t 12), some (10, true), []⟩,
  ⟨some 14, .pick (.t 10) (.t 13) (.c (.d (.bool false))), none, []⟩,
  ⟨some 6, .move (.t 14), none, []⟩]
def v31 : VFn := ⟨3, [.tmp 6], (.seq (.region false 0 [0, 1, 2] r31_0) (.seq (.region false 0 [6] r31_1) .ret))⟩
/-! loop.example/g00461/spec.Blind -/
def r33_0 : List VOper := [
  ⟨some 4, .move (.c (.d (.bool false))), none, []⟩]
def r33_1 : List VOper := [
  ⟨some 5, .move (.t 1), none, []⟩,
  ⟨some 6, .move (.t 0), none, []⟩,
  ⟨some 7, .len false (.t 6), none, []⟩,
  ⟨some 8, .bin .sub (.t 7) (.c (.d (.int .i64 1))), none, []⟩,
  ⟨some 9, .call true (.c (.fn 31 [])) [.t 5, .c (.d (.int .i64 0)), .t 8], none, []⟩,
  ⟨some 10, .move (.t 9), none, []⟩,
  ⟨some 11, .move (.t 0), some (10, true), []⟩,
  ⟨some 12, .move (.t 1), some (10, true), []⟩,
  ⟨some 13, .indexAddr 3 none (.t 11) (.t 12), some (10, true), []⟩,
  ⟨some 14, .fieldAddr 2 (.t 13), some (10, true), []⟩,
  ⟨some 15, .load false 1 (.t 14), some (10, true), []⟩,
  ⟨some 16, .pick (.t 10) (.t 15) (.c (.d (.bool false))), none, []⟩,
  ⟨some 4, .move (.t 16), none, []⟩]
def v33 : VFn := ⟨2, [.tmp 4], (.seq (.region false 0 [0, 1] r33_0) (.seq (.region false 0 [4] r33_1) .ret))⟩
/-! loop.example/g00461/impl.Blind -/
def r34_0 : List VOper := [
  ⟨some 4, .move (.c (.d (.bool false))), none, []⟩]
def r34_1 : List VOper := [
  ⟨some 5, .move (.t 0), none, []⟩,
  ⟨some 6, .move (.t 1), none, []⟩,
  ⟨some 7, .call true (.c (.fn 29 [])) [.t 5, .t 6], none, []⟩,
  ⟨some 8, .move (.t 7), none, []⟩,
  ⟨some 9, .move (.t 0), some (8, true), []⟩,
  ⟨some 10, .move (.t 1), some (8, true), []⟩,
  ⟨some 11, .indexAddr 3 none (.t 9) (.t 10), some (8, true), []⟩,
  ⟨some 12, .fieldAddr 2 (.t 11), some (8, true), []⟩,
  ⟨some 13, .load false 1 (.t 12), some (8, true), []⟩,
  ⟨some 14, .pick (.t 8) (.t 13) (.c (.d (.bool false))), none, []⟩,
  ⟨some 4, .move (.t 14), none, []⟩]
def v34 : VFn := ⟨2, [.tmp 4], (.seq (.region false 0 [0, 1] r34_0) (.seq (.region false 0 [4] r34_1) .ret))⟩
/-! loop.example/g00461/spec.Before -/
def r84_0 : List VOper := [
  ⟨some 2, .box 0 (.t 0), none, []⟩,
  ⟨some 3, .box 1 (.t 1), none, []⟩,
  ⟨some 4, .move (.c (.d (.bool false))), none, []⟩]
def r84_1 : List VOper := [
  ⟨some 6, .fieldAddr 0 (.t 2), none, []⟩,
  ⟨some 7, .load false 1 (.t 6), none, []⟩,
  ⟨some 8, .fieldAddr 0 (.t 3), none, []⟩,
  ⟨some 9, .load false 1 (.t 8), none, []⟩,
  ⟨some 10, .bin .neq (.t 7) (.t 9), none, []⟩]
def r84_2 : List VOper := [
  ⟨some 11, .fieldAddr 0 (.t 2), none, []⟩,
  ⟨some 12, .load false 1 (.t 11), none, []⟩,
  ⟨some 13, .fieldAddr 0 (.t 3), none, []⟩,
  ⟨some 14, .load false 1 (.t 13), none, []⟩,
  ⟨some 15, .bin .lss (.t 12) (.t 14), none, []⟩,
  ⟨some 4, .move (.t 15), none, []⟩]
def r84_3 : List VOper := [
  ⟨some 16, .fieldAddr 1 (.t 2), none, []⟩,
  ⟨some 17, .load false 1 (.t 16), none, []⟩,
  ⟨some 18, .fieldAddr 1 (.t 3), none, []⟩,
  ⟨some 19, .load false 1 (.t 18), none, []⟩,
  ⟨some 20, .bin .neq (.t 17) (.t 19), none, []⟩]
def r84_4 : List VOper := [
  ⟨some 21, .fieldAddr 1 (.t 2), none, []⟩,
  ⟨some 22, .load false 1 (.t 21), none, []⟩,
  ⟨some 23, .fieldAddr 1 (.t 3), none, []⟩,
  ⟨some 24, .load false 1 (.t 23), none, []⟩,
  ⟨some 25, .bin .lss (.t 22) (.t 24), none, []⟩,
  ⟨some 4, .move (.t 25), none, []⟩]
def r84_5 : List VOper := [
  ⟨some 26, .fieldAddr 2 (.t 2), none, []⟩,
  ⟨some 27, .load false 1 (.t 26), none, []⟩,
  ⟨some 28, .len false (.t 27), none, []⟩,
  ⟨some 29, .fieldAddr 2 (.t 3), none, []⟩,
  ⟨some 30, .load false 1 (.t 29), none, []⟩,
  ⟨some 31, .len false (.t 30), none, []⟩,
  ⟨some 32, .bin .neq (.t 28) (.t 31), none, []⟩]
def r84_6 : List VOper := [
  ⟨some 33, .fieldAddr 2 (.t 2), none, []⟩,
  ⟨some 34, .load false 1 (.t 33), none, []⟩,
  ⟨some 35, .len false (.t 34), none, []⟩,
  ⟨some 36, .fieldAddr 2 (.t 3), none, []⟩,
  ⟨some 37, .load false 1 (.t 36), none, []⟩,
  ⟨some 38, .len false (.t 37), none, []⟩,
  ⟨some 39, .bin .lss (.t 35) (.t 38), none, []⟩,
  ⟨some 4, .move (.t 39), none, []⟩]
def r84_7 : List VOper := [
  ⟨some 5, .move (.c (.d (.int .i64 0))), none, []⟩]
def r84_8 : List VOper := [
  ⟨some 40, .move (.t 5), none, []⟩,
  ⟨some 41, .fieldAddr 2 (.t 2), none, []⟩,
  ⟨some 42, .load false 1 (.t 41), none, []⟩,
  ⟨some 43, .len false (.t 42), none, []⟩,
  ⟨some 44, .bin .lss (.t 40) (.t 43), none, []⟩]
def r84_10 : List VOper := [
  ⟨some 47, .fieldAddr 2 (.t 2), none, []⟩,
  ⟨some 48, .load false 1 (.t 47), none, [0]⟩,
  ⟨some 49, .move (.t 5), none, []⟩,
  ⟨some 50, .indexAddr 3 none (.t 48) (.t 49), none, [1, 2]⟩,
  ⟨some 51, .load true 3 (.t 50), none, [3]⟩,
  ⟨some 52, .fieldAddr 2 (.t 3), none, []⟩,
  ⟨some 53, .load false 1 (.t 52), none, [5]⟩,
  ⟨some 54, .move (.t 5), none, []⟩,
  ⟨some 55, .indexAddr 3 none (.t 53) (.t 54), none, [6, 7]⟩,
  ⟨some 56, .load true 3 (.t 55), none, [8]⟩,
  ⟨some 57, .call true (.c (.fn 3 [])) [.t 51, .t 56], none, [4, 9]⟩,
  ⟨some 58, .not (.t 57), none, [10]⟩]
def r84_11 : List VOper := [
  ⟨some 59, .fieldAddr 2 (.t 2), none, []⟩,
  ⟨some 60, .load false 1 (.t 59), none, [0]⟩,
  ⟨some 61, .move (.t 5), none, []⟩,
  ⟨some 62, .indexAddr 3 none (.t 60) (.t 61), none, [1, 2]⟩,
  ⟨some 63, .load true 3 (.t 62), none, [3]⟩,
  ⟨some 64, .fieldAddr 2 (.t 3), none, []⟩,
  ⟨some 65, .load false 1 (.t 64), none, [5]⟩,
  ⟨some 66, .move (.t 5), none, []⟩,
  ⟨some 67, .indexAddr 3 none (.t 65) (.t 66), none, [6, 7]⟩,
  ⟨some 68, .load true 3 (.t 67), none, [8]⟩,
  ⟨some 69, .call true (.c (.fn 84 [])) [.t 63, .t 68], none, [4, 9]⟩,
  ⟨some 4, .move (.t 69), none, [0, 1, 2, 3, 4, 5, 6, 7, 8, 9, 10]⟩]
def r84_9 : List VOper := [
  ⟨some 45, .move (.t 5), none, []⟩,
  ⟨some 46, .bin .add (.t 45) (.c (.d (.int .i64 1))), none, []⟩,
  ⟨some 5, .move (.t 46), none, []⟩]
def b84_0 : VCode := (.seq (.seq (.region false 0 [2, 3, 5, 44] r84_8) (.cond (.t 44) .skip (.exit 0))) (.seq (.block 1 (.seq (.region true 0 [2, 3, 5, 58] r84_10) (.cond (.t 58) (.seq (.region true 0 [4] r84_11) .ret) .skip))) (.region false 0 [2, 3, 5] r84_9)))
def r84_12 : List VOper := [
  ⟨some 4, .move (.c (.d (.bool false))), none, []⟩]
def v84 : VFn := ⟨2, [.tmp 4], (.seq (.region false 2 [2, 3] r84_0) (.seq (.seq (.region false 0 [2, 3, 10] r84_1) (.cond (.t 10) (.seq (.region false 0 [4] r84_2) .ret) .skip)) (.seq (.seq (.region false 0 [2, 3, 20] r84_3) (.cond (.t 20) (.seq (.region false 0 [4] r84_4) .ret) .skip)) (.seq (.seq (.region false 0 [2, 3, 32] r84_5) (.cond (.t 32) (.seq (.region false 0 [4] r84_6) .ret) .skip)) (.seq (.seq (.region false 0 [2, 3, 5] r84_7) (.block 0 (.loop [2, 3, 5] b84_0))) (.seq (.region false 0 [4] r84_12) .ret))))))⟩
/-! loop.example/g00461/laws.big -/
def r133_0 : List VOper := [
  ⟨some 2, .move (.c (.d (.bool false))), none, []⟩]
def r133_1 : List VOper := [
  ⟨some 3, .move (.t 0), none, []⟩,
  ⟨some 4, .len false (.t 3), none, []⟩,
  ⟨some 5, .bin .gtr (.t 4) (.c (.d (.int .i64 1048576))), none, []⟩,
  ⟨some 2, .move (.t 5), none, []⟩]
def v133 : VFn := ⟨1, [.tmp 2], (.seq (.region false 0 [0] r133_0) (.seq (.region false 0 [2] r133_1) .ret))⟩
/-! loop.example/g00461/spec.l3Copy -/
def r146_0 : List VOper := [
  ⟨some 1, .box 0 (.t 0), none, []⟩,
  ⟨some 2, .alloc 1 [.int .i64 0, .int .i64 0, .sl .nil []], none, []⟩]
def r146_1 : List VOper := [
  ⟨some 5, .fieldAddr 0 (.t 1), none, []⟩,
  ⟨some 6, .load false 1 (.t 5), none, []⟩,
  ⟨some 7, .fieldAddr 1 (.t 1), none, []⟩,
  ⟨some 8, .load false 1 (.t 7), none, []⟩,
  ⟨some 9, .build [.int .i64 0, .int .i64 0, .sl .nil []] [(0, 1, .t 6), (1, 1, .t 8)], none, []⟩,
  ⟨some 3, .alloc 0 [.int .i64 0, .int .i64 0, .sl .nil []], none, []⟩,
  ⟨none, .store false 3 (.t 3) (.t 9), none, []⟩]
def r146_2 : List VOper := [
  ⟨some 4, .move (.c (.d (.int .i64 0))), none, []⟩]
def r146_3 : List VOper := [
  ⟨some 10, .move (.t 4), none, []⟩,
  ⟨some 11, .fieldAddr 2 (.t 1), none, []⟩,
  ⟨some 12, .load false 1 (.t 11), none, []⟩,
  ⟨some 13, .len false (.t 12), none, []⟩,
  ⟨some 14, .bin .lss (.t 10) (.t 13), none, []⟩]
def r146_5 : List VOper := [
  ⟨some 17, .fieldAddr 2 (.t 3), none, []⟩,
  ⟨some 18, .load false 1 (.t 17), none, [0]⟩,
  ⟨some 19, .fieldAddr 2 (.t 1), none, []⟩,
  ⟨some 20, .load false 1 (.t 19), none, [2]⟩,
  ⟨some 21, .move (.t 4), none, []⟩,
  ⟨some 22, .indexAddr 3 none (.t 20) (.t 21), none, [3, 4]⟩,
  ⟨some 23, .load true 3 (.t 22), none, [5]⟩,
  ⟨some 24, .call true (.c (.fn 146 [])) [.t 23], none, [6]⟩,
  ⟨some 25, .buildSlice 3 (.agg [.int .i64 0, .int .i64 0, .sl .nil []]) 1 [(0, .t 24)], none, [7]⟩,
  ⟨some 26, .append 3 40 (.t 18) (.t 25), none, [1, 7, 8]⟩,
  ⟨some 27, .fieldAddr 2 (.t 3), none, [0, 1, 2, 3, 4, 5, 6, 7, 8, 9]⟩,
  ⟨none, .store false 1 (.t 27) (.t 26), none, [0, 1, 2, 3, 4, 5, 6, 7, 8, 9, 10]⟩]
def r146_4 : List VOper := [
  ⟨some 15, .move (.t 4), none, []⟩,
  ⟨some 16, .bin .add (.t 15) (.c (.d (.int .i64 1))), none, []⟩,
  ⟨some 4, .move (.t 16), none, []⟩]
def b146_0 : VCode := (.seq (.seq (.region false 0 [1, 2, 3, 4, 14] r146_3) (.cond (.t 14) .skip (.exit 0))) (.seq (.block 1 (.region true 0 [1, 2, 3, 4] r146_5)) (.region false 0 [1, 2, 3, 4] r146_4)))
def r146_6 : List VOper := [
  ⟨some 28, .load true 3 (.t 3), none, []⟩,
  ⟨none, .store false 3 (.t 2) (.t 28), none, []⟩]
def v146 : VFn := ⟨1, [.cell 2 true 3], (.seq (.region false 2 [1, 2] r146_0) (.seq (.region false 1 [1, 2, 3] r146_1) (.seq (.seq (.region false 0 [1, 2, 3, 4] r146_2) (.block 0 (.loop [1, 2, 3, 4] b146_0))) (.seq (.region false 0 [2] r146_6) .ret))))⟩
/-! loop.example/g00461/spec.l3Var -/
def r147_0 : List VOper := [
  ⟨some 2, .alloc 0 [.int .i64 0, .int .i64 0, .sl .nil []], none, []⟩]
def r147_1 : List VOper := [
  ⟨some 3, .move (.t 0), none, []⟩,
  ⟨some 4, .build [.int .i64 0, .int .i64 0, .sl .nil []] [(0, 1, .c (.d (.int .i64 (-1)))), (1, 1, .t 3)], none, []⟩,
  ⟨none, .store false 3 (.t 2) (.t 4), none, []⟩]
def v147 : VFn := ⟨1, [.cell 2 true 3], (.seq (.region false 1 [0, 2] r147_0) (.seq (.region false 0 [2] r147_1) .ret))⟩
/-! loop.example/g00461/impl.copyTerm -/
def r150_0 : List VOper := [
  ⟨some 1, .box 0 (.t 0), none, []⟩,
  ⟨some 2, .alloc 1 [.int .i64 0, .int .i64 0, .sl .nil []], none, []⟩]
def r150_1 : List VOper := [
  ⟨some 3, .fieldAddr 2 (.t 1), none, []⟩,
  ⟨some 4, .load false 1 (.t 3), none, []⟩,
  ⟨some 5, .call true (.c (.fn 151 [])) [.t 4], none, []⟩,
  ⟨some 6, .fieldAddr 2 (.t 1), none, []⟩,
  ⟨none, .store false 1 (.t 6) (.t 5), none, []⟩]
def r150_2 : List VOper := [
  ⟨some 7, .load true 3 (.t 1), none, []⟩,
  ⟨none, .store false 3 (.t 2) (.t 7), none, []⟩]
def v150 : VFn := ⟨1, [.cell 2 true 3], (.seq (.region false 2 [1, 2] r150_0) (.seq (.region false 0 [1, 2] r150_1) (.seq (.region false 0 [2] r150_2) .ret)))⟩
/-! loop.example/g00461/impl.copyTerms -/
def r151_0 : List VOper := [
  ⟨some 2, .move (.c (.d (.sl .nil []))), none, []⟩]
def r151_1 : List VOper := [
  ⟨some 6, .buildSlice 3 (.agg [.int .i64 0, .int .i64 0, .sl .nil []]) 0 [], none, []⟩,
  ⟨some 3, .move (.t 6), none, []⟩]
def r151_2 : List VOper := [
  ⟨some 7, .move (.t 0), none, []⟩,
  ⟨some 8, .len false (.t 7), none, []⟩,
  ⟨some 9, .move (.c (.d (.int .i64 0))), none, []⟩]
def r151_3 : List VOper := [
  ⟨some 10, .bin .lss (.t 9) (.t 8), none, []⟩]
def r151_4 : List VOper := [
  ⟨some 11, .indexAddr 3 none (.t 7) (.t 9), none, []⟩,
  ⟨some 12, .load true 3 (.t 11), none, []⟩,
  ⟨some 5, .alloc 0 [.int .i64 0, .int .i64 0, .sl .nil []], none, []⟩,
  ⟨none, .store false 3 (.t 5) (.t 12), none, []⟩]
def r151_5 : List VOper := [
  ⟨some 13, .move (.t 3), none, []⟩,
  ⟨some 14, .load true 3 (.t 5), none, []⟩,
  ⟨some 15, .call true (.c (.fn 150 [])) [.t 14], none, []⟩,
  ⟨some 16, .buildSlice 3 (.agg [.int .i64 0, .int .i64 0, .sl .nil []]) 1 [(0, .t 15)], none, []⟩,
  ⟨some 17, .append 3 40 (.t 13) (.t 16), none, []⟩,
  ⟨some 3, .move (.t 17), none, []⟩]
def r151_6 : List VOper := [
  ⟨some 18, .bin .add (.t 9) (.c (.d (.int .i64 1))), none, []⟩,
  ⟨some 9, .move (.t 18), none, []⟩]
def b151_0 : VCode := (.seq (.region false 0 [3, 7, 8, 9, 10] r151_3) (.seq (.cond (.t 10) .skip (.exit 0)) (.seq (.block 1 (.seq (.region false 1 [3, 5, 7, 8, 9] r151_4) (.region false 0 [3, 7, 8, 9] r151_5))) (.region false 0 [3, 7, 8, 9] r151_6))))
def r151_7 : List VOper := [
  ⟨some 19, .move (.t 3), none, []⟩,
  ⟨some 2, .move (.t 19), none, []⟩]
def v151 : VFn := ⟨1, [.tmp 2], (.seq (.region false 0 [0] r151_0) (.seq (.region false 0 [0, 3] r151_1) (.seq (.seq (.region false 0 [3, 7, 8, 9] r151_2) (.block 0 (.loop [3, 7, 8, 9] b151_0))) (.seq (.region false 0 [2] r151_7) .ret))))⟩
/-! loop.example/g00461/spec.Norm -/
def r153_0 : List VOper := [
  ⟨some 3, .box 0 (.t 1), none, []⟩,
  ⟨some 4, .alloc 1 [.int .i64 0, .int .i64 0, .sl .nil []], none, []⟩]
def r153_1 : List VOper := [
  ⟨some 9, .fieldAddr 0 (.t 3), none, []⟩,
  ⟨some 10, .load false 1 (.t 9), none, []⟩,
  ⟨some 11, .fieldAddr 1 (.t 3), none, []⟩,
  ⟨some 12, .load false 1 (.t 11), none, []⟩,
  ⟨some 13, .build [.int .i64 0, .int .i64 0, .sl .nil []] [(0, 1, .t 10), (1, 1, .t 12)], none, []⟩,
  ⟨some 5, .alloc 0 [.int .i64 0, .int .i64 0, .sl .nil []], none, []⟩,
  ⟨none, .store false 3 (.t 5) (.t 13), none, []⟩]
def r153_2 : List VOper := [
  ⟨some 6, .move (.c (.d (.int .i64 0))), none, []⟩]
def r153_3 : List VOper := [
  ⟨some 14, .move (.t 6), none, []⟩,
  ⟨some 15, .fieldAddr 2 (.t 3), none, []⟩,
  ⟨some 16, .load false 1 (.t 15), none, []⟩,
  ⟨some 17, .len false (.t 16), none, []⟩,
  ⟨some 18, .bin .lss (.t 14) (.t 17), none, []⟩]
def r153_5 : List VOper := [
  ⟨some 21, .move (.t 0), none, []⟩,
  ⟨some 22, .fieldAddr 2 (.t 3), none, []⟩,
  ⟨some 23, .load false 1 (.t 22), none, []⟩,
  ⟨some 24, .move (.t 6), none, []⟩,
  ⟨some 25, .indexAddr 3 none (.t 23) (.t 24), none, []⟩,
  ⟨some 26, .load true 3 (.t 25), none, []⟩,
  ⟨some 27, .call true (.c (.fn 153 [])) [.t 21, .t 26], none, []⟩,
  ⟨some 7, .alloc 0 [.int .i64 0, .int .i64 0, .sl .nil []], none, []⟩,
  ⟨none, .store false 3 (.t 7) (.t 27), none, []⟩]
def r153_10 : List VOper := [
  ⟨some 45, .move (.t 0), none, []⟩,
  ⟨some 46, .fieldAddr 0 (.t 3), none, []⟩,
  ⟨some 47, .load false 1 (.t 46), none, []⟩,
  ⟨some 48, .call true (.c (.fn 33 [])) [.t 45, .t 47], none, []⟩,
  ⟨some 49, .not (.t 48), none, []⟩,
  ⟨some 44, .move (.t 49), none, []⟩]
def r153_11 : List VOper := [
  ⟨some 50, .fieldAddr 2 (.t 5), none, []⟩,
  ⟨some 51, .load false 1 (.t 50), none, []⟩,
  ⟨some 52, .load true 3 (.t 7), none, []⟩,
  ⟨some 53, .buildSlice 3 (.agg [.int .i64 0, .int .i64 0, .sl .nil []]) 1 [(0, .t 52)], none, []⟩,
  ⟨some 54, .append 3 40 (.t 51) (.t 53), none, []⟩,
  ⟨some 55, .fieldAddr 2 (.t 5), none, []⟩,
  ⟨none, .store false 1 (.t 55) (.t 54), none, []⟩]
def r153_12 : List VOper := [
  ⟨some 57, .fieldAddr 0 (.t 7), none, []⟩,
  ⟨some 58, .load false 1 (.t 57), none, []⟩,
  ⟨some 59, .fieldAddr 0 (.t 3), none, []⟩,
  ⟨some 60, .load false 1 (.t 59), none, []⟩,
  ⟨some 61, .bin .neq (.t 58) (.t 60), none, []⟩,
  ⟨some 56, .move (.t 61), none, []⟩]
def r153_13 : List VOper := [
  ⟨some 62, .fieldAddr 2 (.t 5), none, []⟩,
  ⟨some 63, .load false 1 (.t 62), none, []⟩,
  ⟨some 64, .load true 3 (.t 7), none, []⟩,
  ⟨some 65, .call false (.c (.fn 154 [])) [.t 63, .t 64], none, []⟩,
  ⟨some 66, .fieldAddr 2 (.t 5), none, []⟩,
  ⟨none, .store false 1 (.t 66) (.t 65), none, []⟩]
def r153_6 : List VOper := [
  ⟨some 8, .move (.c (.d (.int .i64 0))), none, []⟩]
def r153_7 : List VOper := [
  ⟨some 28, .move (.t 8), none, []⟩,
  ⟨some 29, .fieldAddr 2 (.t 7), none, []⟩,
  ⟨some 30, .load false 1 (.t 29), none, []⟩,
  ⟨some 31, .len false (.t 30), none, []⟩,
  ⟨some 32, .bin .lss (.t 28) (.t 31), none, []⟩]
def r153_9 : List FOper := [
  .one ⟨some 35, .fieldAddr 2 (.t 5), none, []⟩,
  .one ⟨some 36, .load false 1 (.t 35), none, [0]⟩,
  .one ⟨some 37, .fieldAddr 2 (.t 7), none, []⟩,
  .el 38 37 39 (.t 8) 40 3 41 [2] [] [3, 4] [5],
  .one ⟨some 42, .call false (.c (.fn 154 [])) [.t 36, .t 41], none, [1, 6]⟩,
  .one ⟨some 43, .fieldAddr 2 (.t 5), none, [0, 1, 2, 3, 4, 5, 6, 7]⟩,
  .one ⟨none, .store false 1 (.t 43) (.t 42), none, [0, 1, 2, 3, 4, 5, 6, 7, 8]⟩]
def r153_8 : List VOper := [
  ⟨some 33, .move (.t 8), none, []⟩,
  ⟨some 34, .bin .add (.t 33) (.c (.d (.int .i64 1))), none, []⟩,
  ⟨some 8, .move (.t 34), none, []⟩]
def b153_1 : VCode := (.seq (.seq (.region false 0 [0, 3, 4, 5, 6, 7, 8, 32] r153_7) (.cond (.t 32) .skip (.exit 3))) (.seq (.block 4 (.regionF true 0 [0, 3, 4, 5, 6, 7, 8] r153_9)) (.region false 0 [0, 3, 4, 5, 6, 7, 8] r153_8)))
def r153_4 : List VOper := [
  ⟨some 19, .move (.t 6), none, []⟩,
  ⟨some 20, .bin .add (.t 19) (.c (.d (.int .i64 1))), none, []⟩,
  ⟨some 6, .move (.t 20), none, []⟩]
def b153_0 : VCode := (.seq (.seq (.region false 0 [0, 3, 4, 5, 6, 18] r153_3) (.cond (.t 18) .skip (.exit 0))) (.seq (.block 1 (.seq (.region false 1 [0, 3, 4, 5, 6, 7] r153_5) (.block 2 (.seq (.region false 0 [0, 3, 4, 5, 6, 7, 44] r153_10) (.cond (.t 44) (.region false 0 [0, 3, 4, 5, 6] r153_11) (.seq (.region false 0 [0, 3, 4, 5, 6, 7, 56] r153_12) (.cond (.t 56) (.region false 0 [0, 3, 4, 5, 6] r153_13) (.seq (.region false 0 [0, 3, 4, 5, 6, 7, 8] r153_6) (.block 3 (.loop [0, 3, 4, 5, 6, 7, 8] b153_1)))))))))) (.region false 0 [0, 3, 4, 5, 6] r153_4)))
def r153_14 : List VOper := [
  ⟨some 67, .load true 3 (.t 5), none, []⟩,
  ⟨none, .store false 3 (.t 4) (.t 67), none, []⟩]
def v153 : VFn := ⟨2, [.cell 4 true 3], (.seq (.region false 2 [0, 3, 4] r153_0) (.seq (.region false 1 [0, 3, 4, 5] r153_1) (.seq (.seq (.region false 0 [0, 3, 4, 5, 6] r153_2) (.block 0 (.loop [0, 3, 4, 5, 6] b153_0))) (.seq (.region false 0 [4] r153_14) .ret))))⟩
/-! loop.example/g00461/spec.l4Put -/
def r154_0 : List VOper := [
  ⟨some 3, .box 0 (.t 1), none, []⟩,
  ⟨some 4, .move (.c (.d (.sl .nil []))), none, []⟩]
def r154_1 : List VOper := [
  ⟨some 5, .move (.c (.d (.int .i64 0))), none, []⟩]
def r154_2 : List VOper := [
  ⟨some 7, .move (.t 5), none, []⟩,
  ⟨some 8, .move (.t 0), none, []⟩,
  ⟨some 9, .len false (.t 8), none, [1]⟩,
  ⟨some 10, .bin .lss (.t 7) (.t 9), none, [0, 2]⟩,
  ⟨some 11, .move (.t 10), none, [3]⟩,
  ⟨some 12, .load true 3 (.t 3), some (11, true), [4]⟩,
  ⟨some 13, .move (.t 0), some (11, true), [4]⟩,
  ⟨some 14, .move (.t 5), some (11, true), [4]⟩,
  ⟨some 15, .indexAddr 3 none (.t 13) (.t 14), some (11, true), [4, 6, 7]⟩,
  ⟨some 16, .load true 3 (.t 15), some (11, true), [4, 8]⟩,
  ⟨some 17, .call true (.c (.fn 84 [])) [.t 12, .t 16], some (11, true), [4, 5, 9]⟩,
  ⟨some 18, .not (.t 17), some (11, true), [4, 10]⟩,
  ⟨some 19, .pick (.t 11) (.t 18) (.c (.d (.bool false))), none, [4, 11]⟩]
def r154_3 : List VOper := [
  ⟨some 20, .move (.t 5), none, []⟩,
  ⟨some 21, .bin .add (.t 20) (.c (.d (.int .i64 1))), none, []⟩,
  ⟨some 5, .move (.t 21), none, []⟩]
def b154_0 : VCode := (.seq (.seq (.region true 0 [0, 3, 5, 19] r154_2) (.cond (.t 19) .skip (.exit 0))) (.block 1 (.region false 0 [0, 3, 5] r154_3)))
def r154_4 : List FOper := [
  .one ⟨some 22, .buildSlice 3 (.agg [.int .i64 0, .int .i64 0, .sl .nil []]) 0 [], none, []⟩,
  .sl 23 0 24 (.t 5) 25 3 none (some (.t 24)) [] [] [],
  .one ⟨some 26, .append 3 40 (.t 22) (.t 25), none, []⟩,
  .one ⟨some 6, .move (.t 26), none, []⟩]
def r154_5 : List VOper := [
  ⟨some 27, .move (.t 6), none, []⟩,
  ⟨some 28, .load true 3 (.t 3), none, []⟩,
  ⟨some 29, .buildSlice 3 (.agg [.int .i64 0, .int .i64 0, .sl .nil []]) 1 [(0, .t 28)], none, []⟩,
  ⟨some 30, .append 3 40 (.t 27) (.t 29), none, []⟩,
  ⟨some 6, .move (.t 30), none, []⟩]
def r154_6 : List FOper := [
  .one ⟨some 31, .move (.t 6), none, []⟩,
  .sl 32 0 33 (.t 5) 34 3 (some (.t 33)) none [] [] [],
  .one ⟨some 35, .append 3 40 (.t 31) (.t 34), none, []⟩,
  .one ⟨some 4, .move (.t 35), none, []⟩]
def v154 : VFn := ⟨2, [.tmp 4], (.seq (.region false 1 [0, 3] r154_0) (.seq (.region false 0 [0, 3, 5] r154_1) (.seq (.block 0 (.loop [0, 3, 5] b154_0)) (.seq (.regionF false 0 [0, 3, 5, 6] r154_4) (.seq (.region false 0 [0, 5, 6] r154_5) (.seq (.regionF false 0 [4] r154_6) .ret))))))⟩
/-! loop.example/g00461/spec.l2Sig -/
def r155_0 : List VOper := [
  ⟨some 0, .move (.c (.d (.sl .nil []))), none, []⟩]
def r155_1 : List VOper := [
  ⟨some 1, .build [.str ⟨#[]⟩, .int .i64 0, .bool false] [(0, 1, .c (.d (.str ⟨#[116, 116]⟩)))], none, []⟩,
  ⟨some 2, .build [.str ⟨#[]⟩, .int .i64 0, .bool false] [(0, 1, .c (.d (.str ⟨#[97]⟩)))], none, []⟩,
  ⟨some 3, .build [.str ⟨#[]⟩, .int .i64 0, .bool false] [(0, 1, .c (.d (.str ⟨#[98]⟩)))], none, []⟩,
  ⟨some 4, .build [.str ⟨#[]⟩, .int .i64 0, .bool false] [(0, 1, .c (.d (.str ⟨#[103]⟩))), (1, 1, .c (.d (.int .i64 1)))], none, []⟩,
  ⟨some 5, .build [.str ⟨#[]⟩, .int .i64 0, .bool false] [(0, 1, .c (.d (.str ⟨#[104]⟩))), (1, 1, .c (.d (.int .i64 2)))], none, []⟩,
  ⟨some 6, .build [.str ⟨#[]⟩, .int .i64 0, .bool false] [(0, 1, .c (.d (.str ⟨#[102]⟩))), (1, 1, .c (.d (.int .i64 2))), (2, 1, .c (.d (.bool true)))], none, []⟩,
  ⟨some 7, .build [.str ⟨#[]⟩, .int .i64 0, .bool false] [(0, 1, .c (.d (.str ⟨#[107]⟩))), (1, 1, .c (.d (.int .i64 2))), (2, 1, .c (.d (.bool true)))], none, []⟩,
  ⟨some 8, .buildSlice 3 (.agg [.str ⟨#[]⟩, .int .i64 0, .bool false]) 7 [(0, .t 1), (1, .t 2), (2, .t 3), (3, .t 4), (4, .t 5), (5, .t 6), (6, .t 7)], none, []⟩,
  ⟨some 0, .move (.t 8), none, []⟩]
def v155 : VFn := ⟨0, [.tmp 0], (.seq (.region false 0 [] r155_0) (.seq (.region false 0 [0] r155_1) .ret))⟩
/-! loop.example/g00461/spec.l1New -/
def r156_0 : List VOper := [
  ⟨some 2, .move (.c .nilp), none, []⟩]
def r156_1 : List VOper := [
  ⟨some 5, .move (.t 0), none, []⟩,
  ⟨some 6, .len false (.t 5), none, []⟩,
  ⟨some 7, .bin .add (.c (.d (.int .i64 27064))) (.t 6), none, []⟩,
  ⟨some 3, .move (.t 7), none, []⟩]
def r156_2 : List VOper := [
  ⟨some 4, .move (.c (.d (.int .i64 0))), none, []⟩]
def r156_3 : List VOper := [
  ⟨some 8, .move (.t 4), none, []⟩,
  ⟨some 9, .move (.t 0), none, []⟩,
  ⟨some 10, .len false (.t 9), none, []⟩,
  ⟨some 11, .bin .lss (.t 8) (.t 10), none, []⟩,
  ⟨some 12, .move (.t 11), none, []⟩,
  ⟨some 13, .move (.t 4), some (12, true), []⟩,
  ⟨some 14, .bin .lss (.t 13) (.c (.d (.int .i64 4000))), some (12, true), []⟩,
  ⟨some 15, .pick (.t 12) (.t 14) (.c (.d (.bool false))), none, []⟩]
def r156_5 : List VOper := [
  ⟨some 18, .move (.t 3), none, []⟩,
  ⟨some 19, .bin .mul (.t 18) (.c (.d (.int .i64 131))), none, []⟩,
  ⟨some 20, .move (.t 0), none, []⟩,
  ⟨some 21, .move (.t 4), none, []⟩,
  ⟨some 22, .indexAddr 1 none (.t 20) (.t 21), none, []⟩,
  ⟨some 23, .load false 1 (.t 22), none, []⟩,
  ⟨some 24, .conv (.kind .i64) (.t 23), none, []⟩,
  ⟨some 25, .bin .add (.t 19) (.t 24), none, []⟩,
  ⟨some 26, .bin .add (.t 25) (.c (.d (.int .i64 7))), none, []⟩,
  ⟨some 27, .bin .and (.t 26) (.c (.d (.int .i64 1073741823))), none, []⟩,
  ⟨some 3, .move (.t 27), none, []⟩]
def r156_4 : List VOper := [
  ⟨some 16, .move (.t 4), none, []⟩,
  ⟨some 17, .bin .add (.t 16) (.c (.d (.int .i64 1))), none, []⟩,
  ⟨some 4, .move (.t 17), none, []⟩]
def b156_0 : VCode := (.seq (.seq (.region false 0 [0, 3, 4, 15] r156_3) (.cond (.t 15) .skip (.exit 0))) (.seq (.block 1 (.region false 0 [0, 3, 4] r156_5)) (.region false 0 [0, 3, 4] r156_4)))
def r156_6 : List VOper := [
  ⟨some 28, .move (.t 0), none, []⟩,
  ⟨some 29, .move (.t 3), none, []⟩,
  ⟨some 30, .build [.sl .nil [], .int .i64 0, .int .i64 0] [(0, 1, .t 28), (2, 1, .t 29)], none, []⟩,
  ⟨some 31, .box 0 (.t 30), none, []⟩,
  ⟨some 2, .move (.t 31), none, []⟩]
def v156 : VFn := ⟨1, [.tmp 2], (.seq (.region false 0 [0] r156_0) (.seq (.region false 0 [0, 3] r156_1) (.seq (.seq (.region false 0 [0, 3, 4] r156_2) (.block 0 (.loop [0, 3, 4] b156_0))) (.seq (.region false 1 [2] r156_6) .ret))))⟩
/-! loop.example/g00461/spec.l1Below -/
def r159_0 : List VOper := [
  ⟨some 4, .move (.c (.d (.int .i64 0))), none, []⟩]
def r159_1 : List VOper := [
  ⟨some 9, .move (.t 1), none, []⟩,
  ⟨some 10, .bin .leq (.t 9) (.c (.d (.int .i64 0))), none, []⟩]
def r159_2 : List VOper := [
  ⟨some 4, .move (.c (.d (.int .i64 0))), none, []⟩]
def r159_3 : List VOper := [
  ⟨some 11, .move (.t 1), none, []⟩,
  ⟨some 12, .bin .leq (.t 11) (.c (.d (.int .i64 256))), none, []⟩]
def r159_4 : List VOper := [
  ⟨some 13, .move (.t 0), none, []⟩,
  ⟨some 14, .call false (.c (.fn 165 [])) [.t 13], none, []⟩,
  ⟨some 15, .move (.t 1), none, []⟩,
  ⟨some 16, .bin .rem (.t 14) (.t 15), none, []⟩,
  ⟨some 4, .move (.t 16), none, []⟩]
def r159_5 : List VOper := [
  ⟨some 17, .move (.t 0), none, []⟩,
  ⟨some 18, .call false (.c (.fn 165 [])) [.t 17], none, []⟩,
  ⟨some 5, .move (.t 18), none, []⟩]
def r159_6 : List VOper := [
  ⟨some 19, .move (.t 0), none, []⟩,
  ⟨some 20, .call false (.c (.fn 165 [])) [.t 19], none, []⟩,
  ⟨some 6, .move (.t 20), none, []⟩]
def r159_7 : List VOper := [
  ⟨some 21, .move (.t 0), none, []⟩,
  ⟨some 22, .call false (.c (.fn 165 [])) [.t 21], none, []⟩,
  ⟨some 7, .move (.t 22), none, []⟩]
def r159_8 : List VOper := [
  ⟨some 23, .move (.t 0), none, []⟩,
  ⟨some 24, .call false (.c (.fn 165 [])) [.t 23], none, []⟩,
  ⟨some 8, .move (.t 24), none, []⟩]
def r159_9 : List VOper := [
  ⟨some 25, .move (.t 5), none, []⟩,
  ⟨some 26, .bin .mul (.t 25) (.c (.d (.int .i64 16777216))), none, []⟩,
  ⟨some 27, .move (.t 6), none, []⟩,
  ⟨some 28, .bin .mul (.t 27) (.c (.d (.int .i64 65536))), none, []⟩,
  ⟨some 29, .bin .add (.t 26) (.t 28), none, []⟩,
  ⟨some 30, .move (.t 7), none, []⟩,
  ⟨some 31, .bin .mul (.t 30) (.c (.d (.int .i64 256))), none, []⟩,
  ⟨some 32, .bin .add (.t 29) (.t 31), none, []⟩,
  ⟨some 33, .move (.t 8), none, []⟩,
  ⟨some 34, .bin .add (.t 32) (.t 33), none, []⟩,
  ⟨some 35, .move (.t 1), none, []⟩,
  ⟨some 36, .bin .rem (.t 34) (.t 35), none, []⟩,
  ⟨some 4, .move (.t 36), none, []⟩]
def v159 : VFn := ⟨2, [.tmp 4], (.seq (.region false 0 [0, 1] r159_0) (.seq (.seq (.region false 0 [0, 1, 10] r159_1) (.cond (.t 10) (.seq (.region false 0 [4] r159_2) .ret) .skip)) (.seq (.seq (.region false 0 [0, 1, 12] r159_3) (.cond (.t 12) (.seq (.region false 0 [4] r159_4) .ret) .skip)) (.seq (.region false 0 [0, 1, 5] r159_5) (.seq (.region false 0 [0, 1, 5, 6] r159_6) (.seq (.region false 0 [0, 1, 5, 6, 7] r159_7) (.seq (.region false 0 [1, 5, 6, 7, 8] r159_8) (.seq (.region false 0 [4] r159_9) .ret))))))))⟩
/-! loop.example/g00461/spec.l1PickInt -/
def r160_0 : List VOper := [
  ⟨some 4, .move (.c (.d (.int .i64 0))), none, []⟩]
def r160_1 : List VOper := [
  ⟨some 5, .move (.t 1), none, []⟩,
  ⟨some 6, .move (.t 0), none, []⟩,
  ⟨some 7, .move (.t 1), none, []⟩,
  ⟨some 8, .len false (.t 7), none, []⟩,
  ⟨some 9, .call false (.c (.fn 159 [])) [.t 6, .t 8], none, []⟩,
  ⟨some 10, .indexAddr 1 none (.t 5) (.t 9), none, []⟩,
  ⟨some 11, .load false 1 (.t 10), none, []⟩,
  ⟨some 4, .move (.t 11), none, []⟩]
def v160 : VFn := ⟨2, [.tmp 4], (.seq (.region false 0 [0, 1] r160_0) (.seq (.region false 0 [4] r160_1) .ret))⟩
/-! loop.example/g00461/spec.l3Draw -/
def r161_0 : List VOper := [
  ⟨some 2, .alloc 0 [.int .i64 0, .int .i64 0, .sl .nil []], none, []⟩]
def r161_1 : List VOper := [
  ⟨some 6, .move (.t 0), none, []⟩,
  ⟨some 7, .call false (.c (.fn 163 [])) [.t 6, .c (.d (.int .i64 3))], none, []⟩,
  ⟨some 3, .alloc 3 [.int .i64 0, .int .i64 0, .sl .nil []], none, []⟩,
  ⟨none, .store false 3 (.t 3) (.t 7), none, []⟩]
def r161_2 : List VOper := [
  ⟨some 4, .move (.t 3), none, []⟩]
def r161_3 : List VOper := [
  ⟨some 5, .move (.c (.d (.int .i64 0))), none, []⟩]
def r161_4 : List VOper := [
  ⟨some 8, .move (.t 5), none, []⟩,
  ⟨some 9, .bin .lss (.t 8) (.c (.d (.int .i64 3))), none, []⟩,
  ⟨some 10, .move (.t 9), none, []⟩,
  ⟨some 11, .move (.t 4), some (10, true), []⟩,
  ⟨some 12, .nilCheck (.t 11), some (10, true), []⟩,
  ⟨some 13, .fieldAddr 2 (.t 12), some (10, true), []⟩,
  ⟨some 14, .load false 1 (.t 13), some (10, true), []⟩,
  ⟨some 15, .len false (.t 14), some (10, true), []⟩,
  ⟨some 16, .bin .gtr (.t 15) (.c (.d (.int .i64 0))), some (10, true), []⟩,
  ⟨some 17, .pick (.t 10) (.t 16) (.c (.d (.bool false))), none, []⟩,
  ⟨some 18, .move (.t 17), none, []⟩,
  ⟨some 19, .move (.t 0), some (18, true), []⟩,
  ⟨some 20, .call false (.c (.fn 162 [])) [.t 19, .c (.d (.int .i64 2))], some (18, true), []⟩,
  ⟨some 21, .not (.t 20), some (18, true), []⟩,
  ⟨some 22, .pick (.t 18) (.t 21) (.c (.d (.bool false))), none, []⟩]
def r161_6 : List VOper := [
  ⟨some 25, .move (.t 4), none, []⟩,
  ⟨some 26, .nilCheck (.t 25), none, [0]⟩,
  ⟨some 27, .fieldAddr 2 (.t 26), none, [1]⟩,
  ⟨some 28, .loadS false 1 (.t 27) 0, none, [2]⟩,
  ⟨some 29, .move (.t 0), none, []⟩,
  ⟨some 30, .move (.t 4), none, []⟩,
  ⟨some 31, .nilCheck (.t 30), none, [5]⟩,
  ⟨some 32, .fieldAddr 2 (.t 31), none, [6]⟩,
  ⟨some 33, .load false 1 (.t 32), none, [7]⟩,
  ⟨some 34, .len false (.t 33), none, [8]⟩,
  ⟨some 35, .callS 0 (.c (.fn 159 [])) [.t 29, .t 34], none, [4, 9]⟩,
  ⟨some 36, .indexAddr 3 none (.t 28) (.t 35), none, [3, 10]⟩,
  ⟨some 4, .move (.t 36), none, [0, 1, 2, 3, 4, 5, 6, 7, 8, 9, 10, 11]⟩]
def r161_5 : List VOper := [
  ⟨some 23, .move (.t 5), none, []⟩,
  ⟨some 24, .bin .add (.t 23) (.c (.d (.int .i64 1))), none, []⟩,
  ⟨some 5, .move (.t 24), none, []⟩]
def b161_0 : VCode := (.seq (.seq (.region false 0 [0, 2, 3, 4, 5, 22] r161_4) (.cond (.t 22) .skip (.exit 0))) (.seq (.block 1 (.ghost (.focC 4 2 [0, 2, 3, 4, 5]) (.region true 0 [0, 2, 3, 4, 5] r161_6))) (.region false 0 [0, 2, 3, 4, 5] r161_5)))
def r161_7 : List VOper := [
  ⟨some 37, .move (.t 0), none, []⟩,
  ⟨some 38, .call false (.c (.fn 159 [])) [.t 37, .c (.d (.int .i64 12))], none, []⟩]
def r161_8 : List VOper := [
  ⟨some 40, .bin .eql (.t 38) (.c (.d (.int .i64 0))), none, []⟩,
  ⟨some 39, .move (.t 40), none, []⟩]
def r161_9 : List VOper := [
  ⟨some 41, .move (.t 4), none, []⟩,
  ⟨some 42, .move (.t 0), none, []⟩,
  ⟨some 43, .buildSlice 1 (.int .i64 0) 5 [(0, .c (.d (.int .i64 (-2)))), (1, .c (.d (.int .i64 (-1)))), (2, .c (.d (.int .i64 0))), (3, .c (.d (.int .i64 5))), (4, .c (.d (.int .i64 7)))], none, []⟩,
  ⟨some 44, .call false (.c (.fn 160 [])) [.t 42, .t 43], none, []⟩,
  ⟨some 45, .nilCheck (.t 41), none, []⟩,
  ⟨some 46, .fieldAddr 0 (.t 45), none, []⟩,
  ⟨none, .store false 1 (.t 46) (.t 44), none, []⟩]
def r161_10 : List VOper := [
  ⟨some 48, .bin .eql (.t 38) (.c (.d (.int .i64 1))), none, []⟩,
  ⟨some 47, .move (.t 48), none, []⟩]
def r161_11 : List VOper := [
  ⟨some 49, .move (.t 4), none, []⟩,
  ⟨some 50, .move (.t 0), none, []⟩,
  ⟨some 51, .buildSlice 1 (.int .i64 0) 4 [(0, .c (.d (.int .i64 (-1)))), (1, .c (.d (.int .i64 1))), (2, .c (.d (.int .i64 99))), (3, .c (.d (.int .i64 100)))], none, []⟩,
  ⟨some 52, .call false (.c (.fn 160 [])) [.t 50, .t 51], none, []⟩,
  ⟨some 53, .nilCheck (.t 49), none, []⟩,
  ⟨some 54, .fieldAddr 1 (.t 53), none, []⟩,
  ⟨none, .store false 1 (.t 54) (.t 52), none, []⟩]
def r161_12 : List VOper := [
  ⟨some 56, .bin .eql (.t 38) (.c (.d (.int .i64 2))), none, []⟩,
  ⟨some 55, .move (.t 56), none, []⟩]
def r161_13 : List VOper := [
  ⟨some 57, .move (.t 4), none, []⟩,
  ⟨some 58, .nilCheck (.t 57), none, [0]⟩,
  ⟨some 59, .fieldAddr 2 (.t 58), none, [1]⟩,
  ⟨some 60, .loadS false 1 (.t 59) 0, none, [2]⟩,
  ⟨some 61, .move (.t 0), none, []⟩,
  ⟨some 62, .callS 0 (.c (.fn 166 [])) [.t 61, .c (.d (.int .i64 1)), .c (.d (.int .i64 2))], none, [4]⟩,
  ⟨some 63, .len false (.t 60), none, [3]⟩,
  ⟨some 64, .buildSlice 3 (.agg [.int .i64 0, .int .i64 0, .sl .nil []]) 1 [(0, .c (.d (.agg [.int .i64 0, .int .i64 0, .sl .nil []])))], none, []⟩]
def r161_13_9 : List VOper := [
  ⟨some 65, .append1 3 40 (.t 60) (.t 64) (.t 63) (.t 62) 66, none, []⟩,
  ⟨some 67, .nilCheck (.t 57), none, []⟩,
  ⟨some 68, .fieldAddr 2 (.t 67), none, []⟩,
  ⟨none, .store false 1 (.t 68) (.t 65), none, []⟩]
def r161_14 : List VOper := [
  ⟨some 70, .bin .eql (.t 38) (.c (.d (.int .i64 3))), none, []⟩,
  ⟨some 69, .move (.t 70), none, []⟩]
def r161_15 : List VOper := [
  ⟨some 71, .move (.t 0), none, []⟩,
  ⟨some 72, .call false (.c (.fn 166 [])) [.t 71, .c (.d (.int .i64 3)), .c (.d (.int .i64 3))], none, []⟩,
  ⟨none, .store false 3 (.t 2) (.t 72), none, []⟩]
def r161_16 : List VOper := [
  ⟨some 73, .load true 3 (.t 3), none, []⟩,
  ⟨none, .store false 3 (.t 2) (.t 73), none, []⟩]
def v161 : VFn := ⟨1, [.cell 2 true 3], (.seq (.region false 1 [0, 2] r161_0) (.seq (.region false 4 [0, 2, 3] r161_1) (.seq (.region false 0 [0, 2, 3, 4] r161_2) (.seq (.seq (.region false 0 [0, 2, 3, 4, 5] r161_3) (.block 0 (.loop [0, 2, 3, 4, 5] b161_0))) (.seq (.seq (.region false 0 [0, 2, 3, 4, 38] r161_7) (.block 2 (.seq (.region false 0 [0, 2, 3, 4, 38, 39] r161_8) (.cond (.t 39) (.region false 0 [2, 3] r161_9) (.seq (.region false 0 [0, 2, 3, 4, 38, 47] r161_10) (.cond (.t 47) (.region false 0 [2, 3] r161_11) (.seq (.region false 0 [0, 2, 3, 4, 38, 55] r161_12) (.cond (.t 55) (.regionT 0 [2, 3] r161_13 r161_13_9) (.seq (.region false 0 [0, 2, 3, 69] r161_14) (.cond (.t 69) (.seq (.region false 0 [2] r161_15) .ret) .skip)))))))))) (.seq (.ghost (.frzB 3 2 [2]) (.region false 0 [2] r161_16)) .ret))))))⟩
/-! loop.example/g00461/spec.l1Once -/
def r162_0 : List VOper := [
  ⟨some 4, .move (.c (.d (.bool false))), none, []⟩]
def r162_1 : List VOper := [
  ⟨some 5, .move (.t 0), none, []⟩,
  ⟨some 6, .move (.t 1), none, []⟩,
  ⟨some 7, .call false (.c (.fn 159 [])) [.t 5, .t 6], none, []⟩,
  ⟨some 8, .bin .eql (.t 7) (.c (.d (.int .i64 0))), none, []⟩,
  ⟨some 4, .move (.t 8), none, []⟩]
def v162 : VFn := ⟨2, [.tmp 4], (.seq (.region false 0 [0, 1] r162_0) (.seq (.region false 0 [4] r162_1) .ret))⟩
/-! loop.example/g00461/spec.l3DrawRight -/
def r163_0 : List VOper := [
  ⟨some 4, .alloc 0 [.int .i64 0, .int .i64 0, .sl .nil []], none, []⟩]
def r163_1 : List VOper := [
  ⟨some 5, .call true (.c (.fn 155 [])) [], none, []⟩,
  ⟨some 6, .move (.t 0), none, []⟩,
  ⟨some 7, .move (.t 1), none, []⟩,
  ⟨some 8, .call false (.c (.fn 166 [])) [.t 6, .c (.d (.int .i64 2)), .t 7], none, []⟩,
  ⟨some 9, .call true (.c (.fn 153 [])) [.t 5, .t 8], none, []⟩,
  ⟨none, .store false 3 (.t 4) (.t 9), none, []⟩]
def v163 : VFn := ⟨2, [.cell 4 true 3], (.seq (.region false 1 [0, 1, 4] r163_0) (.seq (.region false 0 [4] r163_1) .ret))⟩
/-! loop.example/g00461/spec.l3Of -/
def r164_0 : List VOper := [
  ⟨some 4, .alloc 0 [.int .i64 0, .int .i64 0, .sl .nil []], none, []⟩]
def r164_1 : List VOper := [
  ⟨some 5, .move (.t 0), none, []⟩,
  ⟨some 6, .move (.t 1), none, []⟩,
  ⟨some 7, .build [.int .i64 0, .int .i64 0, .sl .nil []] [(0, 1, .t 5), (2, 1, .t 6)], none, []⟩,
  ⟨none, .store false 3 (.t 4) (.t 7), none, []⟩]
def v164 : VFn := ⟨2, [.cell 4 true 3], (.seq (.region false 1 [0, 1, 4] r164_0) (.seq (.region false 0 [4] r164_1) .ret))⟩
/-! loop.example/g00461/spec.l1Byte -/
def r165_0 : List VOper := [
  ⟨some 2, .move (.c (.d (.int .i64 0))), none, []⟩]
def r165_1 : List VOper := [
  ⟨some 4, .move (.t 0), none, []⟩,
  ⟨some 5, .move (.t 0), none, []⟩,
  ⟨some 6, .nilCheck (.t 5), none, []⟩,
  ⟨some 7, .fieldAddr 2 (.t 6), none, []⟩,
  ⟨some 8, .load false 1 (.t 7), none, []⟩,
  ⟨some 9, .bin .mul (.t 8) (.c (.d (.int .i64 6364136223846793005))), none, []⟩,
  ⟨some 10, .bin .add (.t 9) (.c (.d (.int .i64 1442695040888963407))), none, []⟩,
  ⟨some 11, .nilCheck (.t 4), none, []⟩,
  ⟨some 12, .fieldAddr 2 (.t 11), none, []⟩,
  ⟨none, .store false 1 (.t 12) (.t 10), none, []⟩]
def r165_2 : List VOper := [
  ⟨some 13, .move (.t 0), none, []⟩,
  ⟨some 14, .nilCheck (.t 13), none, [0]⟩,
  ⟨some 15, .fieldAddr 2 (.t 14), none, [1]⟩,
  ⟨some 16, .load false 1 (.t 15), none, [2]⟩,
  ⟨some 17, .bin .shr (.t 16) (.c (.d (.int .u64 33))), none, [3]⟩,
  ⟨some 18, .move (.t 0), none, []⟩,
  ⟨some 19, .nilCheck (.t 18), none, [5]⟩,
  ⟨some 20, .fieldAddr 2 (.t 19), none, [6]⟩,
  ⟨some 21, .load false 1 (.t 20), none, [7]⟩,
  ⟨some 22, .bin .shr (.t 21) (.c (.d (.int .u64 45))), none, [8]⟩,
  ⟨some 23, .bin .xor (.t 17) (.t 22), none, [4, 9]⟩,
  ⟨some 24, .bin .and (.t 23) (.c (.d (.int .i64 255))), none, [10]⟩,
  ⟨some 3, .move (.t 24), none, [0, 1, 2, 3, 4, 5, 6, 7, 8, 9, 10, 11]⟩]
def r165_3 : List VOper := [
  ⟨some 25, .move (.t 0), none, []⟩,
  ⟨some 26, .nilCheck (.t 25), none, [0]⟩,
  ⟨some 27, .fieldAddr 1 (.t 26), none, [1]⟩,
  ⟨some 28, .load false 1 (.t 27), none, [2]⟩,
  ⟨some 29, .move (.t 0), none, []⟩,
  ⟨some 30, .nilCheck (.t 29), none, [4]⟩,
  ⟨some 31, .fieldAddr 0 (.t 30), none, [5]⟩,
  ⟨some 32, .load false 1 (.t 31), none, [6]⟩,
  ⟨some 33, .len false (.t 32), none, [7]⟩,
  ⟨some 34, .bin .lss (.t 28) (.t 33), none, [3, 8]⟩]
def r165_4 : List VOper := [
  ⟨some 35, .move (.t 3), none, []⟩,
  ⟨some 36, .move (.t 0), none, []⟩,
  ⟨some 37, .nilCheck (.t 36), none, [1]⟩,
  ⟨some 38, .fieldAddr 0 (.t 37), none, [2]⟩,
  ⟨some 39, .load false 1 (.t 38), none, [3]⟩,
  ⟨some 40, .move (.t 0), none, []⟩,
  ⟨some 41, .nilCheck (.t 40), none, [5]⟩,
  ⟨some 42, .fieldAddr 1 (.t 41), none, [6]⟩,
  ⟨some 43, .load false 1 (.t 42), none, [7]⟩,
  ⟨some 44, .indexAddr 1 none (.t 39) (.t 43), none, [4, 8]⟩,
  ⟨some 45, .load false 1 (.t 44), none, [9]⟩,
  ⟨some 46, .conv (.kind .i64) (.t 45), none, [10]⟩,
  ⟨some 47, .bin .add (.t 35) (.t 46), none, [0, 11]⟩,
  ⟨some 48, .bin .and (.t 47) (.c (.d (.int .i64 255))), none, [12]⟩,
  ⟨some 3, .move (.t 48), none, [0, 1, 2, 3, 4, 5, 6, 7, 8, 9, 10, 11, 12, 13]⟩]
def r165_5 : List VOper := [
  ⟨some 49, .move (.t 0), none, []⟩,
  ⟨some 50, .move (.t 0), none, []⟩,
  ⟨some 51, .nilCheck (.t 50), none, []⟩,
  ⟨some 52, .fieldAddr 1 (.t 51), none, []⟩,
  ⟨some 53, .load false 1 (.t 52), none, []⟩,
  ⟨some 54, .bin .add (.t 53) (.c (.d (.int .i64 1))), none, []⟩,
  ⟨some 55, .nilCheck (.t 49), none, []⟩,
  ⟨some 56, .fieldAddr 1 (.t 55), none, []⟩,
  ⟨none, .store false 1 (.t 56) (.t 54), none, []⟩]
def r165_6 : List VOper := [
  ⟨some 57, .move (.t 3), none, []⟩,
  ⟨some 2, .move (.t 57), none, []⟩]
def v165 : VFn := ⟨1, [.tmp 2], (.seq (.region false 0 [0] r165_0) (.seq (.region false 0 [0] r165_1) (.seq (.region true 0 [0, 3] r165_2) (.seq (.seq (.region true 0 [0, 3, 34] r165_3) (.cond (.t 34) (.seq (.region true 0 [0, 3] r165_4) (.region false 0 [3] r165_5)) .skip)) (.seq (.region false 0 [2] r165_6) .ret)))))⟩
/-! loop.example/g00461/spec.l3DrawDeep -/
def r166_0 : List VOper := [
  ⟨some 6, .alloc 0 [.int .i64 0, .int .i64 0, .sl .nil []], none, []⟩]
def r166_1 : List VOper := [
  ⟨some 9, .move (.t 1), none, []⟩,
  ⟨some 10, .bin .eql (.t 9) (.c (.d (.int .i64 0))), none, []⟩,
  ⟨some 11, .move (.t 10), none, []⟩,
  ⟨some 12, .move (.t 0), some (11, false), []⟩,
  ⟨some 13, .call false (.c (.fn 162 [])) [.t 12, .c (.d (.int .i64 3))], some (11, false), []⟩,
  ⟨some 14, .pick (.t 11) (.c (.d (.bool true))) (.t 13), none, []⟩]
def r166_2 : List VOper := [
  ⟨some 15, .move (.t 2), none, []⟩,
  ⟨some 16, .bin .gtr (.t 15) (.c (.d (.int .i64 0))), none, []⟩,
  ⟨some 17, .move (.t 16), none, []⟩,
  ⟨some 18, .move (.t 0), some (17, true), []⟩,
  ⟨some 19, .call false (.c (.fn 162 [])) [.t 18, .c (.d (.int .i64 2))], some (17, true), []⟩,
  ⟨some 20, .pick (.t 17) (.t 19) (.c (.d (.bool false))), none, []⟩]
def r166_3 : List VOper := [
  ⟨some 21, .move (.t 0), none, []⟩,
  ⟨some 22, .move (.t 2), none, []⟩,
  ⟨some 23, .call false (.c (.fn 159 [])) [.t 21, .t 22], none, []⟩,
  ⟨some 24, .call true (.c (.fn 147 [])) [.t 23], none, []⟩,
  ⟨none, .store false 3 (.t 6) (.t 24), none, []⟩]
def r166_4 : List VOper := [
  ⟨some 25, .move (.t 0), none, []⟩,
  ⟨some 26, .call false (.c (.fn 159 [])) [.t 25, .c (.d (.int .i64 2))], none, []⟩,
  ⟨some 27, .bin .add (.c (.d (.int .i64 1))) (.t 26), none, []⟩,
  ⟨some 28, .build [.int .i64 0, .int .i64 0, .sl .nil []] [(0, 1, .t 27)], none, []⟩,
  ⟨none, .store false 3 (.t 6) (.t 28), none, []⟩]
def r166_5 : List VOper := [
  ⟨some 29, .move (.t 0), none, []⟩,
  ⟨some 30, .buildSlice 1 (.int .i64 0) 5 [(0, .c (.d (.int .i64 3))), (1, .c (.d (.int .i64 4))), (2, .c (.d (.int .i64 5))), (3, .c (.d (.int .i64 5))), (4, .c (.d (.int .i64 6)))], none, []⟩,
  ⟨some 31, .call false (.c (.fn 160 [])) [.t 29, .t 30], none, []⟩,
  ⟨some 7, .move (.t 31), none, []⟩]
def r166_6 : List VOper := [
  ⟨some 32, .move (.t 0), none, []⟩,
  ⟨some 33, .move (.t 1), none, []⟩,
  ⟨some 34, .bin .sub (.t 33) (.c (.d (.int .i64 1))), none, []⟩,
  ⟨some 35, .move (.t 2), none, []⟩,
  ⟨some 36, .call false (.c (.fn 166 [])) [.t 32, .t 34, .t 35], none, []⟩,
  ⟨some 37, .buildSlice 3 (.agg [.int .i64 0, .int .i64 0, .sl .nil []]) 1 [(0, .t 36)], none, []⟩,
  ⟨some 8, .move (.t 37), none, []⟩]
def r166_7 : List VOper := [
  ⟨some 38, .move (.t 7), none, []⟩,
  ⟨some 39, .bin .gtr (.t 38) (.c (.d (.int .i64 3))), none, []⟩]
def r166_8 : List VOper := [
  ⟨some 40, .move (.t 8), none, []⟩,
  ⟨some 41, .move (.t 0), none, []⟩,
  ⟨some 42, .move (.t 1), none, []⟩,
  ⟨some 43, .bin .sub (.t 42) (.c (.d (.int .i64 1))), none, []⟩,
  ⟨some 44, .move (.t 2), none, []⟩,
  ⟨some 45, .call false (.c (.fn 166 [])) [.t 41, .t 43, .t 44], none, []⟩,
  ⟨some 46, .buildSlice 3 (.agg [.int .i64 0, .int .i64 0, .sl .nil []]) 1 [(0, .t 45)], none, []⟩,
  ⟨some 47, .append 3 40 (.t 40) (.t 46), none, []⟩,
  ⟨some 8, .move (.t 47), none, []⟩]
def r166_9 : List VOper := [
  ⟨some 48, .move (.t 7), none, []⟩,
  ⟨some 49, .move (.t 8), none, []⟩,
  ⟨some 50, .call true (.c (.fn 164 [])) [.t 48, .t 49], none, []⟩,
  ⟨none, .store false 3 (.t 6) (.t 50), none, []⟩]
def v166 : VFn := ⟨3, [.cell 6 true 3], (.seq (.region false 1 [0, 1, 2, 6] r166_0) (.seq (.seq (.region false 0 [0, 1, 2, 6, 14] r166_1) (.cond (.t 14) (.seq (.seq (.region false 0 [0, 2, 6, 20] r166_2) (.cond (.t 20) (.seq (.region false 0 [6] r166_3) .ret) .skip)) (.seq (.region false 0 [6] r166_4) .ret)) .skip)) (.seq (.region false 0 [0, 1, 2, 6, 7] r166_5) (.seq (.region false 0 [0, 1, 2, 6, 7, 8] r166_6) (.seq (.seq (.region false 0 [0, 1, 2, 6, 7, 8, 39] r166_7) (.cond (.t 39) (.region false 0 [6, 7, 8] r166_8) .skip)) (.seq (.region false 0 [6] r166_9) .ret))))))⟩
/-! loop.example/g00461/impl.Norm -/
def r169_0 : List VOper := [
  ⟨some 3, .box 0 (.t 1), none, []⟩,
  ⟨some 4, .alloc 1 [.int .i64 0, .int .i64 0, .sl .nil []], none, []⟩]
def r169_1 : List VOper := [
  ⟨some 8, .buildSlice 3 (.agg [.int .i64 0, .int .i64 0, .sl .nil []]) 0 [], none, []⟩,
  ⟨some 5, .move (.t 8), none, []⟩]
def r169_2 : List VOper := [
  ⟨some 9, .fieldAddr 2 (.t 3), none, []⟩,
  ⟨some 10, .load false 1 (.t 9), none, []⟩,
  ⟨some 11, .len false (.t 10), none, []⟩,
  ⟨some 12, .move (.c (.d (.int .i64 0))), none, []⟩]
def r169_3 : List VOper := [
  ⟨some 13, .bin .lss (.t 12) (.t 11), none, []⟩]
def r169_4 : List VOper := [
  ⟨some 14, .indexAddr 3 none (.t 10) (.t 12), none, []⟩,
  ⟨some 15, .load true 3 (.t 14), none, []⟩,
  ⟨some 7, .alloc 0 [.int .i64 0, .int .i64 0, .sl .nil []], none, []⟩,
  ⟨none, .store false 3 (.t 7) (.t 15), none, []⟩]
def r169_5 : List VOper := [
  ⟨some 16, .move (.t 0), none, []⟩,
  ⟨some 17, .load true 3 (.t 7), none, []⟩,
  ⟨some 18, .call true (.c (.fn 169 [])) [.t 16, .t 17], none, []⟩,
  ⟨none, .store false 3 (.t 7) (.t 18), none, []⟩]
def r169_6 : List VOper := [
  ⟨some 19, .move (.t 0), none, []⟩,
  ⟨some 20, .fieldAddr 0 (.t 3), none, []⟩,
  ⟨some 21, .load false 1 (.t 20), none, []⟩,
  ⟨some 22, .call true (.c (.fn 34 [])) [.t 19, .t 21], none, []⟩,
  ⟨some 23, .move (.t 22), none, []⟩,
  ⟨some 24, .fieldAddr 0 (.t 7), some (23, true), []⟩,
  ⟨some 25, .load false 1 (.t 24), some (23, true), []⟩,
  ⟨some 26, .fieldAddr 0 (.t 3), some (23, true), []⟩,
  ⟨some 27, .load false 1 (.t 26), some (23, true), []⟩,
  ⟨some 28, .bin .eql (.t 25) (.t 27), some (23, true), []⟩,
  ⟨some 29, .pick (.t 23) (.t 28) (.c (.d (.bool false))), none, []⟩]
def r169_7 : List VOper := [
  ⟨some 30, .move (.t 5), none, []⟩,
  ⟨some 31, .fieldAddr 2 (.t 7), none, []⟩,
  ⟨some 32, .load false 1 (.t 31), none, []⟩,
  ⟨some 33, .append 3 40 (.t 30) (.t 32), none, []⟩,
  ⟨some 5, .move (.t 33), none, []⟩]
def r169_8 : List VOper := [
  ⟨some 34, .move (.t 5), none, []⟩,
  ⟨some 35, .load true 3 (.t 7), none, []⟩,
  ⟨some 36, .buildSlice 3 (.agg [.int .i64 0, .int .i64 0, .sl .nil []]) 1 [(0, .t 35)], none, []⟩,
  ⟨some 37, .append 3 40 (.t 34) (.t 36), none, []⟩,
  ⟨some 5, .move (.t 37), none, []⟩]
def r169_9 : List VOper := [
  ⟨some 38, .bin .add (.t 12) (.c (.d (.int .i64 1))), none, []⟩,
  ⟨some 12, .move (.t 38), none, []⟩]
def b169_0 : VCode := (.seq (.region false 0 [0, 3, 4, 5, 10, 11, 12, 13] r169_3) (.seq (.cond (.t 13) .skip (.exit 0)) (.seq (.block 1 (.seq (.region false 1 [0, 3, 4, 5, 7, 10, 11, 12] r169_4) (.seq (.region false 0 [0, 3, 4, 5, 7, 10, 11, 12] r169_5) (.seq (.region false 0 [0, 3, 4, 5, 7, 10, 11, 12, 29] r169_6) (.cond (.t 29) (.region false 0 [0, 3, 4, 5, 10, 11, 12] r169_7) (.region false 0 [0, 3, 4, 5, 10, 11, 12] r169_8)))))) (.region false 0 [0, 3, 4, 5, 10, 11, 12] r169_9))))
def r169_10 : List VOper := [
  ⟨some 39, .move (.t 0), none, []⟩,
  ⟨some 40, .fieldAddr 0 (.t 3), none, []⟩,
  ⟨some 41, .load false 1 (.t 40), none, []⟩,
  ⟨some 42, .call true (.c (.fn 34 [])) [.t 39, .t 41], none, []⟩]
def r169_11 : List VOper := [
  ⟨some 43, .move (.t 5), none, []⟩,
  ⟨some 44, .call false (.c (.fn 170 [])) [.t 43, .c (.fn 6 [])], none, []⟩]
def r169_12 : List VOper := [
  ⟨some 45, .move (.t 5), none, []⟩,
  ⟨some 46, .fieldAddr 2 (.t 3), none, []⟩,
  ⟨none, .store false 1 (.t 46) (.t 45), none, []⟩]
def r169_13 : List VOper := [
  ⟨some 47, .load true 3 (.t 3), none, []⟩,
  ⟨none, .store false 3 (.t 4) (.t 47), none, []⟩]
def v169 : VFn := ⟨2, [.cell 4 true 3], (.seq (.region false 2 [0, 3, 4] r169_0) (.seq (.region false 0 [0, 3, 4, 5] r169_1) (.seq (.seq (.region false 0 [0, 3, 4, 5, 10, 11, 12] r169_2) (.block 0 (.loop [0, 3, 4, 5, 10, 11, 12] b169_0))) (.seq (.seq (.region false 0 [3, 4, 5, 42] r169_10) (.cond (.t 42) (.region false 0 [3, 4, 5] r169_11) .skip)) (.seq (.region false 0 [3, 4] r169_12) (.seq (.region false 0 [4] r169_13) .ret))))))⟩
/-! slices.SortStableFunc[[]loop.example/g00461/impl.Term,loop.example/g00461/impl.Term] -/
def r170_0 : List VOper := [
  ⟨some 4, .move (.t 0), none, []⟩,
  ⟨some 5, .move (.t 0), none, []⟩,
  ⟨some 6, .len false (.t 5), none, []⟩,
  ⟨some 7, .move (.t 1), none, []⟩,
  ⟨some 8, .call false (.c (.fn 171 [])) [.t 4, .t 6, .t 7], none, []⟩]
def v170 : VFn := ⟨2, [], (.region false 0 [] r170_0)⟩
/-! slices.stableCmpFunc[loop.example/g00461/impl.Term] -/
def r171_0 : List VOper := [
  ⟨some 6, .move (.c (.d (.int .i64 20))), none, []⟩]
def r171_1 : List VOper := [
  ⟨some 10, .move (.t 6), none, []⟩,
  ⟨some 7, .move (.c (.d (.int .i64 0))), none, []⟩,
  ⟨some 8, .move (.t 10), none, []⟩]
def r171_2 : List VOper := [
  ⟨some 11, .move (.t 8), none, []⟩,
  ⟨some 12, .move (.t 1), none, []⟩,
  ⟨some 13, .bin .leq (.t 11) (.t 12), none, []⟩]
def r171_3 : List VOper := [
  ⟨some 14, .move (.t 0), none, []⟩,
  ⟨some 15, .move (.t 7), none, []⟩,
  ⟨some 16, .move (.t 8), none, []⟩,
  ⟨some 17, .move (.t 2), none, []⟩,
  ⟨some 18, .call false (.c (.fn 172 [])) [.t 14, .t 15, .t 16, .t 17], none, []⟩]
def r171_4 : List VOper := [
  ⟨some 19, .move (.t 8), none, []⟩,
  ⟨some 7, .move (.t 19), none, []⟩]
def r171_5 : List VOper := [
  ⟨some 20, .move (.t 8), none, []⟩,
  ⟨some 21, .move (.t 6), none, []⟩,
  ⟨some 22, .bin .add (.t 20) (.t 21), none, []⟩,
  ⟨some 8, .move (.t 22), none, []⟩]
def b171_0 : VCode := (.seq (.seq (.region false 0 [0, 1, 2, 6, 7, 8, 13] r171_2) (.cond (.t 13) .skip (.exit 0))) (.block 1 (.seq (.region false 0 [0, 1, 2, 6, 8] r171_3) (.seq (.region false 0 [0, 1, 2, 6, 7, 8] r171_4) (.region false 0 [0, 1, 2, 6, 7, 8] r171_5)))))
def r171_6 : List VOper := [
  ⟨some 23, .move (.t 0), none, []⟩,
  ⟨some 24, .move (.t 7), none, []⟩,
  ⟨some 25, .move (.t 1), none, []⟩,
  ⟨some 26, .move (.t 2), none, []⟩,
  ⟨some 27, .call false (.c (.fn 172 [])) [.t 23, .t 24, .t 25, .t 26], none, []⟩]
def r171_7 : List VOper := [
  ⟨some 28, .move (.t 6), none, []⟩,
  ⟨some 29, .move (.t 1), none, []⟩,
  ⟨some 30, .bin .lss (.t 28) (.t 29), none, []⟩]
def r171_8 : List VOper := [
  ⟨some 31, .move (.t 6), none, []⟩,
  ⟨some 32, .bin .mul (.c (.d (.int .i64 2))) (.t 31), none, []⟩,
  ⟨some 7, .move (.c (.d (.int .i64 0))), none, []⟩,
  ⟨some 8, .move (.t 32), none, []⟩]
def r171_9 : List VOper := [
  ⟨some 33, .move (.t 8), none, []⟩,
  ⟨some 34, .move (.t 1), none, []⟩,
  ⟨some 35, .bin .leq (.t 33) (.t 34), none, []⟩]
def r171_10 : List VOper := [
  ⟨some 36, .move (.t 0), none, []⟩,
  ⟨some 37, .move (.t 7), none, []⟩,
  ⟨some 38, .move (.t 7), none, []⟩,
  ⟨some 39, .move (.t 6), none, []⟩,
  ⟨some 40, .bin .add (.t 38) (.t 39), none, []⟩,
  ⟨some 41, .move (.t 8), none, []⟩,
  ⟨some 42, .move (.t 2), none, []⟩,
  ⟨some 43, .call false (.c (.fn 173 [])) [.t 36, .t 37, .t 40, .t 41, .t 42], none, []⟩]
def r171_11 : List VOper := [
  ⟨some 44, .move (.t 8), none, []⟩,
  ⟨some 7, .move (.t 44), none, []⟩]
def r171_12 : List VOper := [
  ⟨some 45, .move (.t 8), none, []⟩,
  ⟨some 46, .move (.t 6), none, []⟩,
  ⟨some 47, .bin .mul (.c (.d (.int .i64 2))) (.t 46), none, []⟩,
  ⟨some 48, .bin .add (.t 45) (.t 47), none, []⟩,
  ⟨some 8, .move (.t 48), none, []⟩]
def b171_2 : VCode := (.seq (.seq (.region false 0 [0, 1, 2, 6, 7, 8, 35] r171_9) (.cond (.t 35) .skip (.exit 4))) (.block 5 (.seq (.region false 0 [0, 1, 2, 6, 8] r171_10) (.seq (.region false 0 [0, 1, 2, 6, 7, 8] r171_11) (.region false 0 [0, 1, 2, 6, 7, 8] r171_12)))))
def r171_13 : List VOper := [
  ⟨some 49, .move (.t 7), none, []⟩,
  ⟨some 50, .move (.t 6), none, []⟩,
  ⟨some 51, .bin .add (.t 49) (.t 50), none, []⟩,
  ⟨some 9, .move (.t 51), none, []⟩]
def r171_14 : List VOper := [
  ⟨some 52, .move (.t 9), none, []⟩,
  ⟨some 53, .move (.t 1), none, []⟩,
  ⟨some 54, .bin .lss (.t 52) (.t 53), none, []⟩]
def r171_15 : List VOper := [
  ⟨some 55, .move (.t 0), none, []⟩,
  ⟨some 56, .move (.t 7), none, []⟩,
  ⟨some 57, .move (.t 9), none, []⟩,
  ⟨some 58, .move (.t 1), none, []⟩,
  ⟨some 59, .move (.t 2), none, []⟩,
  ⟨some 60, .call false (.c (.fn 173 [])) [.t 55, .t 56, .t 57, .t 58, .t 59], none, []⟩]
def r171_16 : List VOper := [
  ⟨some 61, .move (.t 6), none, []⟩,
  ⟨some 62, .bin .mul (.t 61) (.c (.d (.int .i64 2))), none, []⟩,
  ⟨some 6, .move (.t 62), none, []⟩]
def b171_1 : VCode := (.seq (.seq (.region false 0 [0, 1, 2, 6, 30] r171_7) (.cond (.t 30) .skip (.exit 2))) (.block 3 (.seq (.region false 0 [0, 1, 2, 6, 7, 8] r171_8) (.seq (.block 4 (.loop [0, 1, 2, 6, 7, 8] b171_2)) (.seq (.seq (.region false 0 [0, 1, 2, 6, 7, 9] r171_13) (.seq (.region false 0 [0, 1, 2, 6, 7, 9, 54] r171_14) (.cond (.t 54) (.region false 0 [0, 1, 2, 6] r171_15) .skip))) (.region false 0 [0, 1, 2, 6] r171_16))))))
def v171 : VFn := ⟨3, [], (.seq (.region false 0 [0, 1, 2, 6] r171_0) (.seq (.region false 0 [0, 1, 2, 6, 7, 8] r171_1) (.seq (.block 0 (.loop [0, 1, 2, 6, 7, 8] b171_0)) (.seq (.region false 0 [0, 1, 2, 6] r171_6) (.block 2 (.loop [0, 1, 2, 6] b171_1))))))⟩
/-! slices.insertionSortCmpFunc[loop.example/g00461/impl.Term] -/
def r172_0 : List VOper := [
  ⟨some 10, .move (.t 1), none, []⟩,
  ⟨some 11, .bin .add (.t 10) (.c (.d (.int .i64 1))), none, []⟩,
  ⟨some 8, .move (.t 11), none, []⟩]
def r172_1 : List VOper := [
  ⟨some 12, .move (.t 8), none, []⟩,
  ⟨some 13, .move (.t 2), none, []⟩,
  ⟨some 14, .bin .lss (.t 12) (.t 13), none, []⟩]
def r172_3 : List VOper := [
  ⟨some 17, .move (.t 8), none, []⟩,
  ⟨some 9, .move (.t 17), none, []⟩]
def r172_4 : List VOper := [
  ⟨some 18, .move (.t 9), none, []⟩,
  ⟨some 19, .move (.t 1), none, []⟩,
  ⟨some 20, .bin .gtr (.t 18) (.t 19), none, [0, 1]⟩,
  ⟨some 21, .move (.t 20), none, [2]⟩,
  ⟨some 22, .move (.t 3), some (21, true), [3]⟩,
  ⟨some 23, .move (.t 0), some (21, true), [3]⟩,
  ⟨some 24, .move (.t 9), some (21, true), [3]⟩,
  ⟨some 25, .indexAddr 3 none (.t 23) (.t 24), some (21, true), [3, 5, 6]⟩,
  ⟨some 26, .load true 3 (.t 25), some (21, true), [3, 7]⟩,
  ⟨some 27, .move (.t 0), some (21, true), [3]⟩,
  ⟨some 28, .move (.t 9), some (21, true), [3]⟩,
  ⟨some 29, .bin .sub (.t 28) (.c (.d (.int .i64 1))), some (21, true), [3, 10]⟩,
  ⟨some 30, .indexAddr 3 none (.t 27) (.t 29), some (21, true), [3, 9, 11]⟩,
  ⟨some 31, .load true 3 (.t 30), some (21, true), [3, 12]⟩,
  ⟨some 32, .call false (.t 22) [.t 26, .t 31], some (21, true), [3, 4, 8, 13]⟩,
  ⟨some 33, .bin .lss (.t 32) (.c (.d (.int .i64 0))), some (21, true), [3, 14]⟩,
  ⟨some 34, .pick (.t 21) (.t 33) (.c (.d (.bool false))), none, [3, 15]⟩]
def r172_6 : List VOper := [
  ⟨some 37, .move (.t 0), none, []⟩,
  ⟨some 38, .move (.t 9), none, []⟩,
  ⟨some 39, .move (.t 0), none, []⟩,
  ⟨some 40, .move (.t 9), none, []⟩,
  ⟨some 41, .bin .sub (.t 40) (.c (.d (.int .i64 1))), none, [3]⟩,
  ⟨some 42, .move (.t 0), none, []⟩,
  ⟨some 43, .move (.t 9), none, []⟩,
  ⟨some 44, .bin .sub (.t 43) (.c (.d (.int .i64 1))), none, [6]⟩,
  ⟨some 45, .indexAddr 3 none (.t 42) (.t 44), none, [5, 7]⟩,
  ⟨some 46, .load true 3 (.t 45), none, [8]⟩,
  ⟨some 47, .move (.t 0), none, []⟩,
  ⟨some 48, .move (.t 9), none, []⟩,
  ⟨some 49, .indexAddr 3 none (.t 47) (.t 48), none, [10, 11]⟩,
  ⟨some 50, .load true 3 (.t 49), none, [12]⟩,
  ⟨some 51, .indexAddr 3 none (.t 37) (.t 38), none, [0, 1, 5, 6, 7, 8, 9, 13]⟩,
  ⟨none, .store false 3 (.t 51) (.t 46), none, [0, 1, 5, 6, 7, 8, 9, 13, 14]⟩,
  ⟨some 52, .indexAddr 3 none (.t 39) (.t 41), none, [0, 1, 2, 3, 4, 5, 6, 7, 8, 9, 10, 11, 12, 13, 14, 15]⟩,
  ⟨none, .store false 3 (.t 52) (.t 50), none, [0, 1, 2, 3, 4, 5, 6, 7, 8, 9, 10, 11, 12, 13, 14, 15, 16]⟩]
def r172_5 : List VOper := [
  ⟨some 35, .move (.t 9), none, []⟩,
  ⟨some 36, .bin .sub (.t 35) (.c (.d (.int .i64 1))), none, []⟩,
  ⟨some 9, .move (.t 36), none, []⟩]
def b172_1 : VCode := (.seq (.seq (.region true 0 [0, 1, 2, 3, 8, 9, 34] r172_4) (.cond (.t 34) .skip (.exit 2))) (.seq (.block 3 (.region true 0 [0, 1, 2, 3, 8, 9] r172_6)) (.region false 0 [0, 1, 2, 3, 8, 9] r172_5)))
def r172_2 : List VOper := [
  ⟨some 15, .move (.t 8), none, []⟩,
  ⟨some 16, .bin .add (.t 15) (.c (.d (.int .i64 1))), none, []⟩,
  ⟨some 8, .move (.t 16), none, []⟩]
def b172_0 : VCode := (.seq (.seq (.region false 0 [0, 1, 2, 3, 8, 14] r172_1) (.cond (.t 14) .skip (.exit 0))) (.seq (.block 1 (.seq (.region false 0 [0, 1, 2, 3, 8, 9] r172_3) (.block 2 (.loop [0, 1, 2, 3, 8, 9] b172_1)))) (.region false 0 [0, 1, 2, 3, 8] r172_2)))
def v172 : VFn := ⟨4, [], (.seq (.region false 0 [0, 1, 2, 3, 8] r172_0) (.block 0 (.loop [0, 1, 2, 3, 8] b172_0)))⟩
/-! slices.symMergeCmpFunc[loop.example/g00461/impl.Term] -/
def r173_0 : List VOper := [
  ⟨some 25, .move (.t 2), none, []⟩,
  ⟨some 26, .move (.t 1), none, []⟩,
  ⟨some 27, .bin .sub (.t 25) (.t 26), none, []⟩,
  ⟨some 28, .bin .eql (.t 27) (.c (.d (.int .i64 1))), none, []⟩]
def r173_1 : List VOper := [
  ⟨some 29, .move (.t 2), none, []⟩,
  ⟨some 10, .move (.t 29), none, []⟩]
def r173_2 : List VOper := [
  ⟨some 30, .move (.t 3), none, []⟩,
  ⟨some 11, .move (.t 30), none, []⟩]
def r173_3 : List VOper := [
  ⟨some 31, .move (.t 10), none, []⟩,
  ⟨some 32, .move (.t 11), none, []⟩,
  ⟨some 33, .bin .lss (.t 31) (.t 32), none, []⟩]
def r173_4 : List VOper := [
  ⟨some 34, .move (.t 10), none, []⟩,
  ⟨some 35, .move (.t 11), none, []⟩,
  ⟨some 36, .bin .add (.t 34) (.t 35), none, []⟩,
  ⟨some 37, .conv (.kind .u64) (.t 36), none, []⟩,
  ⟨some 38, .bin .shr (.t 37) (.c (.d (.int .u64 1))), none, []⟩,
  ⟨some 39, .conv (.kind .i64) (.t 38), none, []⟩,
  ⟨some 12, .move (.t 39), none, []⟩]
def r173_5 : List VOper := [
  ⟨some 40, .move (.t 4), none, []⟩,
  ⟨some 41, .move (.t 0), none, []⟩,
  ⟨some 42, .move (.t 12), none, []⟩,
  ⟨some 43, .indexAddr 3 none (.t 41) (.t 42), none, [1, 2]⟩,
  ⟨some 44, .load true 3 (.t 43), none, [3]⟩,
  ⟨some 45, .move (.t 0), none, []⟩,
  ⟨some 46, .move (.t 1), none, []⟩,
  ⟨some 47, .indexAddr 3 none (.t 45) (.t 46), none, [5, 6]⟩,
  ⟨some 48, .load true 3 (.t 47), none, [7]⟩,
  ⟨some 49, .call false (.t 40) [.t 44, .t 48], none, [0, 4, 8]⟩,
  ⟨some 50, .bin .lss (.t 49) (.c (.d (.int .i64 0))), none, [9]⟩]
def r173_6 : List VOper := [
  ⟨some 51, .move (.t 12), none, []⟩,
  ⟨some 52, .bin .add (.t 51) (.c (.d (.int .i64 1))), none, []⟩,
  ⟨some 10, .move (.t 52), none, []⟩]
def r173_7 : List VOper := [
  ⟨some 53, .move (.t 12), none, []⟩,
  ⟨some 11, .move (.t 53), none, []⟩]
def b173_0 : VCode := (.seq (.seq (.region false 0 [0, 1, 4, 10, 11, 33] r173_3) (.cond (.t 33) .skip (.exit 0))) (.block 1 (.seq (.region false 0 [0, 1, 4, 10, 11, 12] r173_4) (.seq (.region true 0 [0, 1, 4, 10, 11, 12, 50] r173_5) (.cond (.t 50) (.region false 0 [0, 1, 4, 10, 11] r173_6) (.region false 0 [0, 1, 4, 10, 11] r173_7))))))
def r173_8 : List VOper := [
  ⟨some 54, .move (.t 1), none, []⟩,
  ⟨some 13, .move (.t 54), none, []⟩]
def r173_9 : List VOper := [
  ⟨some 55, .move (.t 13), none, []⟩,
  ⟨some 56, .move (.t 10), none, []⟩,
  ⟨some 57, .bin .sub (.t 56) (.c (.d (.int .i64 1))), none, []⟩,
  ⟨some 58, .bin .lss (.t 55) (.t 57), none, []⟩]
def r173_11 : List VOper := [
  ⟨some 61, .move (.t 0), none, []⟩,
  ⟨some 62, .move (.t 13), none, []⟩,
  ⟨some 63, .move (.t 0), none, []⟩,
  ⟨some 64, .move (.t 13), none, []⟩,
  ⟨some 65, .bin .add (.t 64) (.c (.d (.int .i64 1))), none, [3]⟩,
  ⟨some 66, .move (.t 0), none, []⟩,
  ⟨some 67, .move (.t 13), none, []⟩,
  ⟨some 68, .bin .add (.t 67) (.c (.d (.int .i64 1))), none, [6]⟩,
  ⟨some 69, .indexAddr 3 none (.t 66) (.t 68), none, [5, 7]⟩,
  ⟨some 70, .load true 3 (.t 69), none, [8]⟩,
  ⟨some 71, .move (.t 0), none, []⟩,
  ⟨some 72, .move (.t 13), none, []⟩,
  ⟨some 73, .indexAddr 3 none (.t 71) (.t 72), none, [10, 11]⟩,
  ⟨some 74, .load true 3 (.t 73), none, [12]⟩,
  ⟨some 75, .indexAddr 3 none (.t 61) (.t 62), none, [0, 1, 5, 6, 7, 8, 9, 13]⟩,
  ⟨none, .store false 3 (.t 75) (.t 70), none, [0, 1, 5, 6, 7, 8, 9, 13, 14]⟩,
  ⟨some 76, .indexAddr 3 none (.t 63) (.t 65), none, [0, 1, 2, 3, 4, 5, 6, 7, 8, 9, 10, 11, 12, 13, 14, 15]⟩,
  ⟨none, .store false 3 (.t 76) (.t 74), none, [0, 1, 2, 3, 4, 5, 6, 7, 8, 9, 10, 11, 12, 13, 14, 15, 16]⟩]
def r173_10 : List VOper := [
  ⟨some 59, .move (.t 13), none, []⟩,
  ⟨some 60, .bin .add (.t 59) (.c (.d (.int .i64 1))), none, []⟩,
  ⟨some 13, .move (.t 60), none, []⟩]
def b173_1 : VCode := (.seq (.seq (.region false 0 [0, 10, 13, 58] r173_9) (.cond (.t 58) .skip (.exit 2))) (.seq (.block 3 (.region true 0 [0, 10, 13] r173_11)) (.region false 0 [0, 10, 13] r173_10)))
def r173_12 : List VOper := [
  ⟨some 77, .move (.t 3), none, []⟩,
  ⟨some 78, .move (.t 2), none, []⟩,
  ⟨some 79, .bin .sub (.t 77) (.t 78), none, []⟩,
  ⟨some 80, .bin .eql (.t 79) (.c (.d (.int .i64 1))), none, []⟩]
def r173_13 : List VOper := [
  ⟨some 81, .move (.t 1), none, []⟩,
  ⟨some 14, .move (.t 81), none, []⟩]
def r173_14 : List VOper := [
  ⟨some 82, .move (.t 2), none, []⟩,
  ⟨some 15, .move (.t 82), none, []⟩]
def r173_15 : List VOper := [
  ⟨some 83, .move (.t 14), none, []⟩,
  ⟨some 84, .move (.t 15), none, []⟩,
  ⟨some 85, .bin .lss (.t 83) (.t 84), none, []⟩]
def r173_16 : List VOper := [
  ⟨some 86, .move (.t 14), none, []⟩,
  ⟨some 87, .move (.t 15), none, []⟩,
  ⟨some 88, .bin .add (.t 86) (.t 87), none, []⟩,
  ⟨some 89, .conv (.kind .u64) (.t 88), none, []⟩,
  ⟨some 90, .bin .shr (.t 89) (.c (.d (.int .u64 1))), none, []⟩,
  ⟨some 91, .conv (.kind .i64) (.t 90), none, []⟩,
  ⟨some 16, .move (.t 91), none, []⟩]
def r173_17 : List VOper := [
  ⟨some 92, .move (.t 4), none, []⟩,
  ⟨some 93, .move (.t 0), none, []⟩,
  ⟨some 94, .move (.t 2), none, []⟩,
  ⟨some 95, .indexAddr 3 none (.t 93) (.t 94), none, [1, 2]⟩,
  ⟨some 96, .load true 3 (.t 95), none, [3]⟩,
  ⟨some 97, .move (.t 0), none, []⟩,
  ⟨some 98, .move (.t 16), none, []⟩,
  ⟨some 99, .indexAddr 3 none (.t 97) (.t 98), none, [5, 6]⟩,
  ⟨some 100, .load true 3 (.t 99), none, [7]⟩,
  ⟨some 101, .call false (.t 92) [.t 96, .t 100], none, [0, 4, 8]⟩,
  ⟨some 102, .bin .lss (.t 101) (.c (.d (.int .i64 0))), none, [9]⟩,
  ⟨some 103, .not (.t 102), none, [10]⟩]
def r173_18 : List VOper := [
  ⟨some 104, .move (.t 16), none, []⟩,
  ⟨some 105, .bin .add (.t 104) (.c (.d (.int .i64 1))), none, []⟩,
  ⟨some 14, .move (.t 105), none, []⟩]
def r173_19 : List VOper := [
  ⟨some 106, .move (.t 16), none, []⟩,
  ⟨some 15, .move (.t 106), none, []⟩]
def b173_2 : VCode := (.seq (.seq (.region false 0 [0, 2, 4, 14, 15, 85] r173_15) (.cond (.t 85) .skip (.exit 4))) (.block 5 (.seq (.region false 0 [0, 2, 4, 14, 15, 16] r173_16) (.seq (.region true 0 [0, 2, 4, 14, 15, 16, 103] r173_17) (.cond (.t 103) (.region false 0 [0, 2, 4, 14, 15] r173_18) (.region false 0 [0, 2, 4, 14, 15] r173_19))))))
def r173_20 : List VOper := [
  ⟨some 107, .move (.t 2), none, []⟩,
  ⟨some 17, .move (.t 107), none, []⟩]
def r173_21 : List VOper := [
  ⟨some 108, .move (.t 17), none, []⟩,
  ⟨some 109, .move (.t 14), none, []⟩,
  ⟨some 110, .bin .gtr (.t 108) (.t 109), none, []⟩]
def r173_23 : List VOper := [
  ⟨some 113, .move (.t 0), none, []⟩,
  ⟨some 114, .move (.t 17), none, []⟩,
  ⟨some 115, .move (.t 0), none, []⟩,
  ⟨some 116, .move (.t 17), none, []⟩,
  ⟨some 117, .bin .sub (.t 116) (.c (.d (.int .i64 1))), none, [3]⟩,
  ⟨some 118, .move (.t 0), none, []⟩,
  ⟨some 119, .move (.t 17), none, []⟩,
  ⟨some 120, .bin .sub (.t 119) (.c (.d (.int .i64 1))), none, [6]⟩,
  ⟨some 121, .indexAddr 3 none (.t 118) (.t 120), none, [5, 7]⟩,
  ⟨some 122, .load true 3 (.t 121), none, [8]⟩,
  ⟨some 123, .move (.t 0), none, []⟩,
  ⟨some 124, .move (.t 17), none, []⟩,
  ⟨some 125, .indexAddr 3 none (.t 123) (.t 124), none, [10, 11]⟩,
  ⟨some 126, .load true 3 (.t 125), none, [12]⟩,
  ⟨some 127, .indexAddr 3 none (.t 113) (.t 114), none, [0, 1, 5, 6, 7, 8, 9, 13]⟩,
  ⟨none, .store false 3 (.t 127) (.t 122), none, [0, 1, 5, 6, 7, 8, 9, 13, 14]⟩,
  ⟨some 128, .indexAddr 3 none (.t 115) (.t 117), none, [0, 1, 2, 3, 4, 5, 6, 7, 8, 9, 10, 11, 12, 13, 14, 15]⟩,
  ⟨none, .store false 3 (.t 128) (.t 126), none, [0, 1, 2, 3, 4, 5, 6, 7, 8, 9, 10, 11, 12, 13, 14, 15, 16]⟩]
def r173_22 : List VOper := [
  ⟨some 111, .move (.t 17), none, []⟩,
  ⟨some 112, .bin .sub (.t 111) (.c (.d (.int .i64 1))), none, []⟩,
  ⟨some 17, .move (.t 112), none, []⟩]
def b173_3 : VCode := (.seq (.seq (.region false 0 [0, 14, 17, 110] r173_21) (.cond (.t 110) .skip (.exit 6))) (.seq (.block 7 (.region true 0 [0, 14, 17] r173_23)) (.region false 0 [0, 14, 17] r173_22)))
def r173_24 : List VOper := [
  ⟨some 129, .move (.t 1), none, []⟩,
  ⟨some 130, .move (.t 3), none, []⟩,
  ⟨some 131, .bin .add (.t 129) (.t 130), none, []⟩,
  ⟨some 132, .conv (.kind .u64) (.t 131), none, []⟩,
  ⟨some 133, .bin .shr (.t 132) (.c (.d (.int .u64 1))), none, []⟩,
  ⟨some 134, .conv (.kind .i64) (.t 133), none, []⟩,
  ⟨some 18, .move (.t 134), none, []⟩]
def r173_25 : List VOper := [
  ⟨some 135, .move (.t 18), none, []⟩,
  ⟨some 136, .move (.t 2), none, []⟩,
  ⟨some 137, .bin .add (.t 135) (.t 136), none, []⟩,
  ⟨some 19, .move (.t 137), none, []⟩]
def r173_26 : List VOper := [
  ⟨some 20, .move (.c (.d (.int .i64 0))), none, []⟩,
  ⟨some 21, .move (.c (.d (.int .i64 0))), none, []⟩]
def r173_27 : List VOper := [
  ⟨some 138, .move (.t 2), none, []⟩,
  ⟨some 139, .move (.t 18), none, []⟩,
  ⟨some 140, .bin .gtr (.t 138) (.t 139), none, []⟩]
def r173_28 : List VOper := [
  ⟨some 141, .move (.t 19), none, []⟩,
  ⟨some 142, .move (.t 3), none, []⟩,
  ⟨some 143, .bin .sub (.t 141) (.t 142), none, []⟩,
  ⟨some 20, .move (.t 143), none, []⟩]
def r173_29 : List VOper := [
  ⟨some 144, .move (.t 18), none, []⟩,
  ⟨some 21, .move (.t 144), none, []⟩]
def r173_30 : List VOper := [
  ⟨some 145, .move (.t 1), none, []⟩,
  ⟨some 20, .move (.t 145), none, []⟩]
def r173_31 : List VOper := [
  ⟨some 146, .move (.t 2), none, []⟩,
  ⟨some 21, .move (.t 146), none, []⟩]
def r173_32 : List VOper := [
  ⟨some 147, .move (.t 19), none, []⟩,
  ⟨some 148, .bin .sub (.t 147) (.c (.d (.int .i64 1))), none, []⟩,
  ⟨some 22, .move (.t 148), none, []⟩]
def r173_33 : List VOper := [
  ⟨some 149, .move (.t 20), none, []⟩,
  ⟨some 150, .move (.t 21), none, []⟩,
  ⟨some 151, .bin .lss (.t 149) (.t 150), none, []⟩]
def r173_34 : List VOper := [
  ⟨some 152, .move (.t 20), none, []⟩,
  ⟨some 153, .move (.t 21), none, []⟩,
  ⟨some 154, .bin .add (.t 152) (.t 153), none, []⟩,
  ⟨some 155, .conv (.kind .u64) (.t 154), none, []⟩,
  ⟨some 156, .bin .shr (.t 155) (.c (.d (.int .u64 1))), none, []⟩,
  ⟨some 157, .conv (.kind .i64) (.t 156), none, []⟩,
  ⟨some 23, .move (.t 157), none, []⟩]
def r173_35 : List VOper := [
  ⟨some 158, .move (.t 4), none, []⟩,
  ⟨some 159, .move (.t 0), none, []⟩,
  ⟨some 160, .move (.t 22), none, []⟩,
  ⟨some 161, .move (.t 23), none, []⟩,
  ⟨some 162, .bin .sub (.t 160) (.t 161), none, [2, 3]⟩,
  ⟨some 163, .indexAddr 3 none (.t 159) (.t 162), none, [1, 4]⟩,
  ⟨some 164, .load true 3 (.t 163), none, [5]⟩,
  ⟨some 165, .move (.t 0), none, []⟩,
  ⟨some 166, .move (.t 23), none, []⟩,
  ⟨some 167, .indexAddr 3 none (.t 165) (.t 166), none, [7, 8]⟩,
  ⟨some 168, .load true 3 (.t 167), none, [9]⟩,
  ⟨some 169, .call false (.t 158) [.t 164, .t 168], none, [0, 6, 10]⟩,
  ⟨some 170, .bin .lss (.t 169) (.c (.d (.int .i64 0))), none, [11]⟩,
  ⟨some 171, .not (.t 170), none, [12]⟩]
def r173_36 : List VOper := [
  ⟨some 172, .move (.t 23), none, []⟩,
  ⟨some 173, .bin .add (.t 172) (.c (.d (.int .i64 1))), none, []⟩,
  ⟨some 20, .move (.t 173), none, []⟩]
def r173_37 : List VOper := [
  ⟨some 174, .move (.t 23), none, []⟩,
  ⟨some 21, .move (.t 174), none, []⟩]
def b173_4 : VCode := (.seq (.seq (.region false 0 [0, 1, 2, 3, 4, 18, 19, 20, 21, 22, 151] r173_33) (.cond (.t 151) .skip (.exit 8))) (.block 9 (.seq (.region false 0 [0, 1, 2, 3, 4, 18, 19, 20, 21, 22, 23] r173_34) (.seq (.region true 0 [0, 1, 2, 3, 4, 18, 19, 20, 21, 22, 23, 171] r173_35) (.cond (.t 171) (.region false 0 [0, 1, 2, 3, 4, 18, 19, 20, 21, 22] r173_36) (.region false 0 [0, 1, 2, 3, 4, 18, 19, 20, 21, 22] r173_37))))))
def r173_38 : List VOper := [
  ⟨some 175, .move (.t 19), none, []⟩,
  ⟨some 176, .move (.t 20), none, []⟩,
  ⟨some 177, .bin .sub (.t 175) (.t 176), none, []⟩,
  ⟨some 24, .move (.t 177), none, []⟩]
def r173_39 : List VOper := [
  ⟨some 178, .move (.t 20), none, []⟩,
  ⟨some 179, .move (.t 2), none, []⟩,
  ⟨some 180, .bin .lss (.t 178) (.t 179), none, []⟩,
  ⟨some 181, .move (.t 180), none, []⟩,
  ⟨some 182, .move (.t 2), some (181, true), []⟩,
  ⟨some 183, .move (.t 24), some (181, true), []⟩,
  ⟨some 184, .bin .lss (.t 182) (.t 183), some (181, true), []⟩,
  ⟨some 185, .pick (.t 181) (.t 184) (.c (.d (.bool false))), none, []⟩]
def r173_40 : List VOper := [
  ⟨some 186, .move (.t 0), none, []⟩,
  ⟨some 187, .move (.t 20), none, []⟩,
  ⟨some 188, .move (.t 2), none, []⟩,
  ⟨some 189, .move (.t 24), none, []⟩,
  ⟨some 190, .move (.t 4), none, []⟩,
  ⟨some 191, .call false (.c (.fn 174 [])) [.t 186, .t 187, .t 188, .t 189, .t 190], none, []⟩]
def r173_41 : List VOper := [
  ⟨some 192, .move (.t 1), none, []⟩,
  ⟨some 193, .move (.t 20), none, []⟩,
  ⟨some 194, .bin .lss (.t 192) (.t 193), none, []⟩,
  ⟨some 195, .move (.t 194), none, []⟩,
  ⟨some 196, .move (.t 20), some (195, true), []⟩,
  ⟨some 197, .move (.t 18), some (195, true), []⟩,
  ⟨some 198, .bin .lss (.t 196) (.t 197), some (195, true), []⟩,
  ⟨some 199, .pick (.t 195) (.t 198) (.c (.d (.bool false))), none, []⟩]
def r173_42 : List VOper := [
  ⟨some 200, .move (.t 0), none, []⟩,
  ⟨some 201, .move (.t 1), none, []⟩,
  ⟨some 202, .move (.t 20), none, []⟩,
  ⟨some 203, .move (.t 18), none, []⟩,
  ⟨some 204, .move (.t 4), none, []⟩,
  ⟨some 205, .call false (.c (.fn 173 [])) [.t 200, .t 201, .t 202, .t 203, .t 204], none, []⟩]
def r173_43 : List VOper := [
  ⟨some 206, .move (.t 18), none, []⟩,
  ⟨some 207, .move (.t 24), none, []⟩,
  ⟨some 208, .bin .lss (.t 206) (.t 207), none, []⟩,
  ⟨some 209, .move (.t 208), none, []⟩,
  ⟨some 210, .move (.t 24), some (209, true), []⟩,
  ⟨some 211, .move (.t 3), some (209, true), []⟩,
  ⟨some 212, .bin .lss (.t 210) (.t 211), some (209, true), []⟩,
  ⟨some 213, .pick (.t 209) (.t 212) (.c (.d (.bool false))), none, []⟩]
def r173_44 : List VOper := [
  ⟨some 214, .move (.t 0), none, []⟩,
  ⟨some 215, .move (.t 18), none, []⟩,
  ⟨some 216, .move (.t 24), none, []⟩,
  ⟨some 217, .move (.t 3), none, []⟩,
  ⟨some 218, .move (.t 4), none, []⟩,
  ⟨some 219, .call false (.c (.fn 173 [])) [.t 214, .t 215, .t 216, .t 217, .t 218], none, []⟩]
def v173 : VFn := ⟨5, [], (.seq (.seq (.region false 0 [0, 1, 2, 3, 4, 28] r173_0) (.cond (.t 28) (.seq (.region false 0 [0, 1, 3, 4, 10] r173_1) (.seq (.region false 0 [0, 1, 4, 10, 11] r173_2) (.seq (.block 0 (.loop [0, 1, 4, 10, 11] b173_0)) (.seq (.seq (.region false 0 [0, 10, 13] r173_8) (.block 2 (.loop [0, 10, 13] b173_1))) .ret)))) .skip)) (.seq (.seq (.region false 0 [0, 1, 2, 3, 4, 80] r173_12) (.cond (.t 80) (.seq (.region false 0 [0, 2, 4, 14] r173_13) (.seq (.region false 0 [0, 2, 4, 14, 15] r173_14) (.seq (.block 4 (.loop [0, 2, 4, 14, 15] b173_2)) (.seq (.seq (.region false 0 [0, 14, 17] r173_20) (.block 6 (.loop [0, 14, 17] b173_3))) .ret)))) .skip)) (.seq (.region false 0 [0, 1, 2, 3, 4, 18] r173_24) (.seq (.region false 0 [0, 1, 2, 3, 4, 18, 19] r173_25) (.seq (.region false 0 [0, 1, 2, 3, 4, 18, 19] r173_26) (.seq (.seq (.region false 0 [0, 1, 2, 3, 4, 18, 19, 140] r173_27) (.cond (.t 140) (.seq (.region false 0 [0, 1, 2, 3, 4, 18, 19, 20] r173_28) (.region false 0 [0, 1, 2, 3, 4, 18, 19, 20, 21] r173_29)) (.seq (.region false 0 [0, 1, 2, 3, 4, 18, 19, 20] r173_30) (.region false 0 [0, 1, 2, 3, 4, 18, 19, 20, 21] r173_31)))) (.seq (.region false 0 [0, 1, 2, 3, 4, 18, 19, 20, 21, 22] r173_32) (.seq (.block 8 (.loop [0, 1, 2, 3, 4, 18, 19, 20, 21, 22] b173_4)) (.seq (.region false 0 [0, 1, 2, 3, 4, 18, 20, 24] r173_38) (.seq (.seq (.region false 0 [0, 1, 2, 3, 4, 18, 20, 24, 185] r173_39) (.cond (.t 185) (.region false 0 [0, 1, 3, 4, 18, 20, 24] r173_40) .skip)) (.seq (.seq (.region false 0 [0, 1, 3, 4, 18, 20, 24, 199] r173_41) (.cond (.t 199) (.region false 0 [0, 3, 4, 18, 24] r173_42) .skip)) (.seq (.region false 0 [0, 3, 4, 18, 24, 213] r173_43) (.cond (.t 213) (.region false 0 [] r173_44) .skip)))))))))))))⟩
/-! slices.rotateCmpFunc[loop.example/g00461/impl.Term] -/
def r174_0 : List VOper := [
  ⟨some 12, .move (.t 2), none, []⟩,
  ⟨some 13, .move (.t 1), none, []⟩,
  ⟨some 14, .bin .sub (.t 12) (.t 13), none, []⟩,
  ⟨some 10, .move (.t 14), none, []⟩]
def r174_1 : List VOper := [
  ⟨some 15, .move (.t 3), none, []⟩,
  ⟨some 16, .move (.t 2), none, []⟩,
  ⟨some 17, .bin .sub (.t 15) (.t 16), none, []⟩,
  ⟨some 11, .move (.t 17), none, []⟩]
def r174_2 : List VOper := [
  ⟨some 18, .move (.t 10), none, []⟩,
  ⟨some 19, .move (.t 11), none, []⟩,
  ⟨some 20, .bin .neq (.t 18) (.t 19), none, []⟩]
def r174_3 : List VOper := [
  ⟨some 21, .move (.t 10), none, []⟩,
  ⟨some 22, .move (.t 11), none, []⟩,
  ⟨some 23, .bin .gtr (.t 21) (.t 22), none, []⟩]
def r174_4 : List VOper := [
  ⟨some 24, .move (.t 0), none, []⟩,
  ⟨some 25, .move (.t 2), none, []⟩,
  ⟨some 26, .move (.t 10), none, []⟩,
  ⟨some 27, .bin .sub (.t 25) (.t 26), none, []⟩,
  ⟨some 28, .move (.t 2), none, []⟩,
  ⟨some 29, .move (.t 11), none, []⟩,
  ⟨some 30, .move (.t 4), none, []⟩,
  ⟨some 31, .call false (.c (.fn 175 [])) [.t 24, .t 27, .t 28, .t 29, .t 30], none, []⟩]
def r174_5 : List VOper := [
  ⟨some 32, .move (.t 10), none, []⟩,
  ⟨some 33, .move (.t 11), none, []⟩,
  ⟨some 34, .bin .sub (.t 32) (.t 33), none, []⟩,
  ⟨some 10, .move (.t 34), none, []⟩]
def r174_6 : List VOper := [
  ⟨some 35, .move (.t 0), none, []⟩,
  ⟨some 36, .move (.t 2), none, []⟩,
  ⟨some 37, .move (.t 10), none, []⟩,
  ⟨some 38, .bin .sub (.t 36) (.t 37), none, []⟩,
  ⟨some 39, .move (.t 2), none, []⟩,
  ⟨some 40, .move (.t 11), none, []⟩,
  ⟨some 41, .bin .add (.t 39) (.t 40), none, []⟩,
  ⟨some 42, .move (.t 10), none, []⟩,
  ⟨some 43, .bin .sub (.t 41) (.t 42), none, []⟩,
  ⟨some 44, .move (.t 10), none, []⟩,
  ⟨some 45, .move (.t 4), none, []⟩,
  ⟨some 46, .call false (.c (.fn 175 [])) [.t 35, .t 38, .t 43, .t 44, .t 45], none, []⟩]
def r174_7 : List VOper := [
  ⟨some 47, .move (.t 11), none, []⟩,
  ⟨some 48, .move (.t 10), none, []⟩,
  ⟨some 49, .bin .sub (.t 47) (.t 48), none, []⟩,
  ⟨some 11, .move (.t 49), none, []⟩]
def b174_0 : VCode := (.seq (.seq (.region false 0 [0, 2, 4, 10, 11, 20] r174_2) (.cond (.t 20) .skip (.exit 0))) (.block 1 (.seq (.region false 0 [0, 2, 4, 10, 11, 23] r174_3) (.cond (.t 23) (.seq (.region false 0 [0, 2, 4, 10, 11] r174_4) (.region false 0 [0, 2, 4, 10, 11] r174_5)) (.seq (.region false 0 [0, 2, 4, 10, 11] r174_6) (.region false 0 [0, 2, 4, 10, 11] r174_7))))))
def r174_8 : List VOper := [
  ⟨some 50, .move (.t 0), none, []⟩,
  ⟨some 51, .move (.t 2), none, []⟩,
  ⟨some 52, .move (.t 10), none, []⟩,
  ⟨some 53, .bin .sub (.t 51) (.t 52), none, []⟩,
  ⟨some 54, .move (.t 2), none, []⟩,
  ⟨some 55, .move (.t 10), none, []⟩,
  ⟨some 56, .move (.t 4), none, []⟩,
  ⟨some 57, .call false (.c (.fn 175 [])) [.t 50, .t 53, .t 54, .t 55, .t 56], none, []⟩]
def v174 : VFn := ⟨5, [], (.seq (.region false 0 [0, 2, 3, 4, 10] r174_0) (.seq (.region false 0 [0, 2, 4, 10, 11] r174_1) (.seq (.block 0 (.loop [0, 2, 4, 10, 11] b174_0)) (.region false 0 [] r174_8))))⟩
/-! slices.swapRangeCmpFunc[loop.example/g00461/impl.Term] -/
def r175_0 : List VOper := [
  ⟨some 10, .move (.c (.d (.int .i64 0))), none, []⟩]
def r175_1 : List VOper := [
  ⟨some 11, .move (.t 10), none, []⟩,
  ⟨some 12, .move (.t 3), none, []⟩,
  ⟨some 13, .bin .lss (.t 11) (.t 12), none, []⟩]
def r175_3 : List VOper := [
  ⟨some 16, .move (.t 0), none, []⟩,
  ⟨some 17, .move (.t 1), none, []⟩,
  ⟨some 18, .move (.t 10), none, []⟩,
  ⟨some 19, .bin .add (.t 17) (.t 18), none, [1, 2]⟩,
  ⟨some 20, .move (.t 0), none, []⟩,
  ⟨some 21, .move (.t 2), none, []⟩,
  ⟨some 22, .move (.t 10), none, []⟩,
  ⟨some 23, .bin .add (.t 21) (.t 22), none, [5, 6]⟩,
  ⟨some 24, .move (.t 0), none, []⟩,
  ⟨some 25, .move (.t 2), none, []⟩,
  ⟨some 26, .move (.t 10), none, []⟩,
  ⟨some 27, .bin .add (.t 25) (.t 26), none, [9, 10]⟩,
  ⟨some 28, .indexAddr 3 none (.t 24) (.t 27), none, [8, 11]⟩,
  ⟨some 29, .load true 3 (.t 28), none, [12]⟩,
  ⟨some 30, .move (.t 0), none, []⟩,
  ⟨some 31, .move (.t 1), none, []⟩,
  ⟨some 32, .move (.t 10), none, []⟩,
  ⟨some 33, .bin .add (.t 31) (.t 32), none, [15, 16]⟩,
  ⟨some 34, .indexAddr 3 none (.t 30) (.t 33), none, [14, 17]⟩,
  ⟨some 35, .load true 3 (.t 34), none, [18]⟩,
  ⟨some 36, .indexAddr 3 none (.t 16) (.t 19), none, [0, 1, 2, 3, 8, 9, 10, 11, 12, 13, 19]⟩,
  ⟨none, .store false 3 (.t 36) (.t 29), none, [0, 1, 2, 3, 8, 9, 10, 11, 12, 13, 19, 20]⟩,
  ⟨some 37, .indexAddr 3 none (.t 20) (.t 23), none, [0, 1, 2, 3, 4, 5, 6, 7, 8, 9, 10, 11, 12, 13, 14, 15, 16, 17, 18, 19, 20, 21]⟩,
  ⟨none, .store false 3 (.t 37) (.t 35), none, [0, 1, 2, 3, 4, 5, 6, 7, 8, 9, 10, 11, 12, 13, 14, 15, 16, 17, 18, 19, 20, 21, 22]⟩]
def r175_2 : List VOper := [
  ⟨some 14, .move (.t 10), none, []⟩,
  ⟨some 15, .bin .add (.t 14) (.c (.d (.int .i64 1))), none, []⟩,
  ⟨some 10, .move (.t 15), none, []⟩]
def b175_0 : VCode := (.seq (.seq (.region false 0 [0, 1, 2, 3, 10, 13] r175_1) (.cond (.t 13) .skip (.exit 0))) (.seq (.block 1 (.region true 0 [0, 1, 2, 3, 10] r175_3)) (.region false 0 [0, 1, 2, 3, 10] r175_2)))
def v175 : VFn := ⟨5, [], (.seq (.region false 0 [0, 1, 2, 3, 10] r175_0) (.block 0 (.loop [0, 1, 2, 3, 10] b175_0)))⟩
/-! loop.example/g00461/laws.FnOneForm -/
def r189_0 : List VOper := [
  ⟨some 2, .move (.c (.d (.bool false))), none, []⟩]
def r189_1 : List VOper := [
  ⟨some 12, .move (.t 0), none, []⟩,
  ⟨some 13, .call true (.c (.fn 133 [])) [.t 12], none, []⟩]
def r189_2 : List VOper := [
  ⟨some 2, .move (.c (.d (.bool true))), none, []⟩]
def r189_3 : List VOper := [
  ⟨some 15, .move (.t 0), none, []⟩,
  ⟨some 16, .call true (.c (.fn 190 [])) [.t 15], none, []⟩,
  ⟨some 14, .move (.t 16), none, []⟩,
  ⟨some 17, .extract (.t 14) 0, none, []⟩,
  ⟨some 18, .extract (.t 14) 1, none, []⟩,
  ⟨some 4, .alloc 0 [.int .i64 0, .int .i64 0, .sl .nil []], none, []⟩,
  ⟨some 3, .move (.t 17), none, []⟩,
  ⟨none, .store false 3 (.t 4) (.t 18), none, []⟩]
def r189_4 : List VOper := [
  ⟨some 19, .move (.t 3), none, []⟩,
  ⟨some 20, .load true 3 (.t 4), none, []⟩,
  ⟨some 21, .call true (.c (.fn 169 [])) [.t 19, .t 20], none, []⟩,
  ⟨some 5, .alloc 0 [.int .i64 0, .int .i64 0, .sl .nil []], none, []⟩,
  ⟨none, .store false 3 (.t 5) (.t 21), none, []⟩]
def r189_5 : List VOper := [
  ⟨some 23, .move (.t 0), none, []⟩,
  ⟨some 24, .call true (.c (.fn 191 [])) [.t 23], none, []⟩,
  ⟨some 22, .move (.t 24), none, []⟩,
  ⟨some 25, .extract (.t 22) 0, none, []⟩,
  ⟨some 26, .extract (.t 22) 1, none, []⟩,
  ⟨some 27, .extract (.t 22) 2, none, []⟩,
  ⟨some 6, .move (.t 25), none, []⟩,
  ⟨some 7, .move (.t 26), none, []⟩,
  ⟨some 8, .move (.t 27), none, []⟩]
def r189_6 : List VOper := [
  ⟨some 28, .move (.t 6), none, []⟩,
  ⟨some 29, .move (.t 7), none, []⟩,
  ⟨some 30, .move (.t 8), none, []⟩,
  ⟨some 31, .call true (.c (.fn 192 [])) [.t 28, .t 29, .t 30], none, []⟩,
  ⟨some 9, .alloc 0 [.int .i64 0, .int .i64 0, .sl .nil []], none, []⟩,
  ⟨none, .store false 3 (.t 9) (.t 31), none, []⟩]
def r189_7 : List VOper := [
  ⟨some 32, .load true 3 (.t 5), none, []⟩,
  ⟨some 33, .move (.t 3), none, []⟩,
  ⟨some 34, .load true 3 (.t 4), none, []⟩,
  ⟨some 35, .call true (.c (.fn 153 [])) [.t 33, .t 34], none, [1, 2]⟩,
  ⟨some 36, .call true (.c (.fn 4 [])) [.t 32, .t 35], none, [0, 3]⟩,
  ⟨some 37, .not (.t 36), none, [4]⟩,
  ⟨some 38, .move (.t 37), none, [4, 5]⟩,
  ⟨some 39, .load true 3 (.t 9), some (38, false), [6]⟩,
  ⟨some 40, .move (.t 6), some (38, false), [6]⟩,
  ⟨some 41, .move (.t 7), some (38, false), [6]⟩,
  ⟨some 42, .move (.t 8), some (38, false), [6]⟩,
  ⟨some 43, .call true (.c (.fn 193 [])) [.t 40, .t 41, .t 42], some (38, false), [6, 8, 9, 10]⟩,
  ⟨some 44, .call true (.c (.fn 4 [])) [.t 39, .t 43], some (38, false), [6, 7, 11]⟩,
  ⟨some 45, .not (.t 44), some (38, false), [6, 12]⟩,
  ⟨some 46, .pick (.t 38) (.c (.d (.bool true))) (.t 45), none, [6, 13]⟩,
  ⟨some 47, .move (.t 46), none, [12, 14]⟩,
  ⟨some 48, .move (.t 3), some (47, false), [15]⟩,
  ⟨some 49, .load true 3 (.t 5), some (47, false), [15]⟩,
  ⟨some 50, .call true (.c (.fn 169 [])) [.t 48, .t 49], some (47, false), [15, 16, 17]⟩,
  ⟨some 51, .load true 3 (.t 5), some (47, false), [15]⟩,
  ⟨some 52, .call true (.c (.fn 4 [])) [.t 50, .t 51], some (47, false), [15, 18, 19]⟩,
  ⟨some 53, .not (.t 52), some (47, false), [15, 20]⟩,
  ⟨some 54, .pick (.t 47) (.c (.d (.bool true))) (.t 53), none, [15, 21]⟩]
def r189_8 : List VOper := [
  ⟨some 2, .move (.c (.d (.bool false))), none, []⟩]
def r189_9 : List VOper := [
  ⟨some 55, .move (.t 8), none, []⟩,
  ⟨some 56, .len false (.t 55), none, []⟩,
  ⟨some 57, .bin .lss (.t 56) (.c (.d (.int .i64 3))), none, []⟩,
  ⟨some 58, .move (.t 57), none, []⟩,
  ⟨some 59, .move (.t 6), some (58, false), []⟩,
  ⟨some 60, .move (.t 7), some (58, false), []⟩,
  ⟨some 61, .call true (.c (.fn 34 [])) [.t 59, .t 60], some (58, false), []⟩,
  ⟨some 62, .not (.t 61), some (58, false), []⟩,
  ⟨some 63, .pick (.t 58) (.c (.d (.bool true))) (.t 62), none, []⟩]
def r189_10 : List VOper := [
  ⟨some 2, .move (.c (.d (.bool true))), none, []⟩]
def r189_11 : List VOper := [
  ⟨some 64, .move (.t 8), none, []⟩,
  ⟨some 65, .indexAddr 3 none (.t 64) (.c (.d (.int .i64 2))), none, [0]⟩,
  ⟨some 66, .load true 3 (.t 65), none, [1]⟩,
  ⟨some 67, .move (.t 8), none, []⟩,
  ⟨some 68, .indexAddr 3 none (.t 67) (.c (.d (.int .i64 0))), none, [3]⟩,
  ⟨some 69, .load true 3 (.t 68), none, [4]⟩,
  ⟨some 70, .move (.t 8), none, []⟩,
  ⟨some 71, .indexAddr 3 none (.t 70) (.c (.d (.int .i64 1))), none, [6]⟩,
  ⟨some 72, .load true 3 (.t 71), none, [7]⟩,
  ⟨some 73, .buildSlice 3 (.agg [.int .i64 0, .int .i64 0, .sl .nil []]) 3 [(0, .t 66), (1, .t 69), (2, .t 72)], none, [2, 5, 8]⟩,
  ⟨some 10, .move (.t 73), none, [0, 1, 2, 3, 4, 5, 6, 7, 8, 9]⟩]
def r189_12 : List VOper := [
  ⟨some 74, .move (.t 6), none, []⟩,
  ⟨some 75, .move (.t 7), none, []⟩,
  ⟨some 76, .move (.t 8), none, []⟩,
  ⟨some 77, .slice false 3 (.t 76) none (some (.c (.d (.int .i64 2)))), none, []⟩,
  ⟨some 78, .call true (.c (.fn 192 [])) [.t 74, .t 75, .t 77], none, []⟩,
  ⟨some 11, .alloc 0 [.int .i64 0, .int .i64 0, .sl .nil []], none, []⟩,
  ⟨none, .store false 3 (.t 11) (.t 78), none, []⟩]
def r189_13 : List VOper := [
  ⟨some 79, .load true 3 (.t 9), none, []⟩,
  ⟨some 80, .move (.t 6), none, []⟩,
  ⟨some 81, .move (.t 7), none, []⟩,
  ⟨some 82, .move (.t 10), none, []⟩,
  ⟨some 83, .move (.t 8), none, []⟩,
  ⟨some 84, .slice false 3 (.t 83) (some (.c (.d (.int .i64 3)))) none, none, [4]⟩,
  ⟨some 85, .append 3 40 (.t 82) (.t 84), none, [3, 5]⟩,
  ⟨some 86, .call true (.c (.fn 192 [])) [.t 80, .t 81, .t 85], none, [1, 2, 6]⟩,
  ⟨some 87, .call true (.c (.fn 4 [])) [.t 79, .t 86], none, [0, 7]⟩,
  ⟨some 88, .move (.t 87), none, [8]⟩,
  ⟨some 89, .load true 3 (.t 9), some (88, true), [9]⟩,
  ⟨some 90, .move (.t 6), some (88, true), [9]⟩,
  ⟨some 91, .move (.t 7), some (88, true), [9]⟩,
  ⟨some 92, .load true 3 (.t 11), some (88, true), [9]⟩,
  ⟨some 93, .buildSlice 3 (.agg [.int .i64 0, .int .i64 0, .sl .nil []]) 1 [(0, .t 92)], some (88, true), [9, 13]⟩,
  ⟨some 94, .move (.t 8), some (88, true), [9]⟩,
  ⟨some 95, .slice false 3 (.t 94) (some (.c (.d (.int .i64 2)))) none, some (88, true), [9, 15]⟩,
  ⟨some 96, .append 3 40 (.t 93) (.t 95), some (88, true), [9, 14, 16]⟩,
  ⟨some 97, .call true (.c (.fn 192 [])) [.t 90, .t 91, .t 96], some (88, true), [9, 11, 12, 17]⟩,
  ⟨some 98, .call true (.c (.fn 4 [])) [.t 89, .t 97], some (88, true), [9, 10, 18]⟩,
  ⟨some 99, .pick (.t 88) (.t 98) (.c (.d (.bool false))), none, [9, 19]⟩,
  ⟨some 2, .move (.t 99), none, [0, 1, 2, 3, 4, 5, 6, 7, 8, 9, 10, 11, 12, 13, 14, 15, 16, 17, 18, 19, 20]⟩]
def v189 : VFn := ⟨1, [.tmp 2], (.seq (.region false 0 [0] r189_0) (.seq (.seq (.region false 0 [0, 13] r189_1) (.cond (.t 13) (.seq (.region false 0 [2] r189_2) .ret) .skip)) (.seq (.region false 1 [0, 3, 4] r189_3) (.seq (.region false 1 [0, 3, 4, 5] r189_4) (.seq (.region false 0 [3, 4, 5, 6, 7, 8] r189_5) (.seq (.region false 1 [3, 4, 5, 6, 7, 8, 9] r189_6) (.seq (.seq (.region true 0 [6, 7, 8, 9, 54] r189_7) (.cond (.t 54) (.seq (.region false 0 [2] r189_8) .ret) .skip)) (.seq (.seq (.region false 0 [6, 7, 8, 9, 63] r189_9) (.cond (.t 63) (.seq (.region false 0 [2] r189_10) .ret) .skip)) (.seq (.region true 0 [6, 7, 8, 9, 10] r189_11) (.seq (.region false 1 [6, 7, 8, 9, 10, 11] r189_12) (.seq (.region true 0 [2] r189_13) .ret)))))))))))⟩
/-! loop.example/g00461/spec.DrawNorm -/
def r190_0 : List VOper := [
  ⟨some 2, .move (.c (.d (.sl .nil []))), none, []⟩,
  ⟨some 3, .alloc 0 [.int .i64 0, .int .i64 0, .sl .nil []], none, []⟩]
def r190_1 : List VOper := [
  ⟨some 7, .move (.t 0), none, []⟩,
  ⟨some 8, .call false (.c (.fn 156 [])) [.t 7], none, []⟩,
  ⟨some 4, .move (.t 8), none, []⟩]
def r190_2 : List VOper := [
  ⟨some 9, .move (.t 4), none, []⟩,
  ⟨some 10, .call false (.c (.fn 162 [])) [.t 9, .c (.d (.int .i64 2))], none, []⟩]
def r190_3 : List VOper := [
  ⟨some 11, .call true (.c (.fn 155 [])) [], none, []⟩,
  ⟨some 12, .move (.t 4), none, []⟩,
  ⟨some 13, .call false (.c (.fn 166 [])) [.t 12, .c (.d (.int .i64 3)), .c (.d (.int .i64 2))], none, []⟩,
  ⟨some 2, .move (.t 11), none, []⟩,
  ⟨none, .store false 3 (.t 3) (.t 13), none, []⟩]
def r190_4 : List VOper := [
  ⟨some 15, .move (.t 0), none, []⟩,
  ⟨some 16, .call true (.c (.fn 194 [])) [.t 15], none, []⟩,
  ⟨some 14, .move (.t 16), none, []⟩,
  ⟨some 17, .extract (.t 14) 0, none, []⟩,
  ⟨some 18, .extract (.t 14) 1, none, []⟩,
  ⟨some 6, .alloc 0 [.int .i64 0, .int .i64 0, .sl .nil []], none, []⟩,
  ⟨some 5, .move (.t 17), none, []⟩,
  ⟨none, .store false 3 (.t 6) (.t 18), none, []⟩]
def r190_5 : List VOper := [
  ⟨some 19, .move (.t 5), none, []⟩,
  ⟨some 20, .load true 3 (.t 6), none, []⟩,
  ⟨some 2, .move (.t 19), none, [0]⟩,
  ⟨none, .store false 3 (.t 3) (.t 20), none, [0, 1, 2]⟩]
def v190 : VFn := ⟨1, [.tmp 2, .cell 3 true 3], (.seq (.region false 1 [0, 3] r190_0) (.seq (.region false 0 [0, 3, 4] r190_1) (.seq (.seq (.region false 0 [0, 3, 4, 10] r190_2) (.cond (.t 10) (.seq (.region false 0 [2, 3] r190_3) .ret) .skip)) (.seq (.region false 1 [3, 5, 6] r190_4) (.seq (.region true 0 [2, 3] r190_5) .ret)))))⟩
/-! loop.example/g00461/spec.DrawMake -/
def r191_0 : List VOper := [
  ⟨some 2, .move (.c (.d (.sl .nil []))), none, []⟩,
  ⟨some 3, .move (.c (.d (.int .i64 0))), none, []⟩,
  ⟨some 4, .move (.c (.d (.sl .nil []))), none, []⟩]
def r191_1 : List VOper := [
  ⟨some 8, .move (.t 0), none, []⟩,
  ⟨some 9, .call false (.c (.fn 156 [])) [.t 8], none, []⟩,
  ⟨some 5, .move (.t 9), none, []⟩]
def r191_2 : List VOper := [
  ⟨some 10, .buildSlice 3 (.agg [.int .i64 0, .int .i64 0, .sl .nil []]) 0 [], none, []⟩,
  ⟨some 6, .move (.t 10), none, []⟩]
def r191_3 : List VOper := [
  ⟨some 7, .move (.c (.d (.int .i64 0))), none, []⟩]
def r191_4 : List VOper := [
  ⟨some 11, .move (.t 7), none, []⟩,
  ⟨some 12, .move (.t 5), none, []⟩,
  ⟨some 13, .call false (.c (.fn 159 [])) [.t 12, .c (.d (.int .i64 4))], none, []⟩,
  ⟨some 14, .bin .lss (.t 11) (.t 13), none, []⟩]
def r191_6 : List VOper := [
  ⟨some 17, .move (.t 6), none, []⟩,
  ⟨some 18, .move (.t 5), none, []⟩,
  ⟨some 19, .call false (.c (.fn 166 [])) [.t 18, .c (.d (.int .i64 2)), .c (.d (.int .i64 2))], none, []⟩,
  ⟨some 20, .buildSlice 3 (.agg [.int .i64 0, .int .i64 0, .sl .nil []]) 1 [(0, .t 19)], none, []⟩,
  ⟨some 21, .append 3 40 (.t 17) (.t 20), none, []⟩,
  ⟨some 6, .move (.t 21), none, []⟩]
def r191_5 : List VOper := [
  ⟨some 15, .move (.t 7), none, []⟩,
  ⟨some 16, .bin .add (.t 15) (.c (.d (.int .i64 1))), none, []⟩,
  ⟨some 7, .move (.t 16), none, []⟩]
def b191_0 : VCode := (.seq (.seq (.region false 0 [5, 6, 7, 14] r191_4) (.cond (.t 14) .skip (.exit 0))) (.seq (.block 1 (.region false 0 [5, 6, 7] r191_6)) (.region false 0 [5, 6, 7] r191_5)))
def r191_7 : List VOper := [
  ⟨some 22, .call true (.c (.fn 155 [])) [], none, []⟩,
  ⟨some 23, .move (.t 5), none, []⟩,
  ⟨some 24, .buildSlice 1 (.int .i64 0) 8 [(0, .c (.d (.int .i64 5))), (1, .c (.d (.int .i64 5))), (2, .c (.d (.int .i64 6))), (3, .c (.d (.int .i64 4))), (4, .c (.d (.int .i64 3))), (5, .c (.d (.int .i64 1))), (6, .c (.d (.int .i64 (-1)))), (7, .c (.d (.int .i64 9)))], none, []⟩,
  ⟨some 25, .call false (.c (.fn 160 [])) [.t 23, .t 24], none, []⟩,
  ⟨some 26, .move (.t 6), none, []⟩,
  ⟨some 2, .move (.t 22), none, []⟩,
  ⟨some 3, .move (.t 25), none, []⟩,
  ⟨some 4, .move (.t 26), none, []⟩]
def v191 : VFn := ⟨1, [.tmp 2, .tmp 3, .tmp 4], (.seq (.region false 0 [0] r191_0) (.seq (.region false 0 [5] r191_1) (.seq (.region false 0 [5, 6] r191_2) (.seq (.seq (.region false 0 [5, 6, 7] r191_3) (.block 0 (.loop [5, 6, 7] b191_0))) (.seq (.region false 0 [2, 3, 4] r191_7) .ret)))))⟩
/-! loop.example/g00461/impl.Make -/
def r192_0 : List VOper := [
  ⟨some 6, .alloc 0 [.int .i64 0, .int .i64 0, .sl .nil []], none, []⟩]
def r192_1 : List VOper := [
  ⟨some 8, .move (.t 0), none, []⟩,
  ⟨some 9, .move (.t 1), none, []⟩,
  ⟨some 10, .call true (.c (.fn 29 [])) [.t 8, .t 9], none, []⟩,
  ⟨some 11, .not (.t 10), none, []⟩,
  ⟨some 7, .move (.t 11), none, []⟩]
def r192_2 : List VOper := [
  ⟨some 12, .move (.t 1), none, []⟩,
  ⟨some 13, .move (.t 2), none, []⟩,
  ⟨some 14, .call true (.c (.fn 151 [])) [.t 13], none, []⟩,
  ⟨some 15, .build [.int .i64 0, .int .i64 0, .sl .nil []] [(0, 1, .t 12), (2, 1, .t 14)], none, []⟩,
  ⟨none, .store false 3 (.t 6) (.t 15), none, []⟩]
def r192_3 : List VOper := [
  ⟨some 17, .move (.t 0), none, []⟩,
  ⟨some 18, .move (.t 1), none, []⟩,
  ⟨some 19, .indexAddr 3 none (.t 17) (.t 18), none, []⟩,
  ⟨some 20, .fieldAddr 2 (.t 19), none, []⟩,
  ⟨some 21, .load false 1 (.t 20), none, []⟩,
  ⟨some 22, .move (.t 21), none, []⟩,
  ⟨some 23, .move (.t 2), some (22, true), []⟩,
  ⟨some 24, .len false (.t 23), some (22, true), []⟩,
  ⟨some 25, .bin .eql (.t 24) (.c (.d (.int .i64 0))), some (22, true), []⟩,
  ⟨some 26, .pick (.t 22) (.t 25) (.c (.d (.bool false))), none, []⟩,
  ⟨some 16, .move (.t 26), none, []⟩]
def r192_4 : List VOper := [
  ⟨some 27, .build [.int .i64 0, .int .i64 0, .sl .nil []] [], none, []⟩,
  ⟨none, .store false 3 (.t 6) (.t 27), none, []⟩]
def r192_5 : List VOper := [
  ⟨some 29, .move (.t 0), none, []⟩,
  ⟨some 30, .move (.t 1), none, []⟩,
  ⟨some 31, .indexAddr 3 none (.t 29) (.t 30), none, []⟩,
  ⟨some 32, .fieldAddr 2 (.t 31), none, []⟩,
  ⟨some 33, .load false 1 (.t 32), none, []⟩,
  ⟨some 34, .move (.t 33), none, []⟩,
  ⟨some 35, .move (.t 2), some (34, true), []⟩,
  ⟨some 36, .len false (.t 35), some (34, true), []⟩,
  ⟨some 37, .bin .eql (.t 36) (.c (.d (.int .i64 1))), some (34, true), []⟩,
  ⟨some 38, .pick (.t 34) (.t 37) (.c (.d (.bool false))), none, []⟩,
  ⟨some 28, .move (.t 38), none, []⟩]
def r192_6 : List VOper := [
  ⟨some 39, .move (.t 0), none, []⟩,
  ⟨some 40, .move (.t 2), none, []⟩,
  ⟨some 41, .indexAddr 3 none (.t 40) (.c (.d (.int .i64 0))), none, []⟩,
  ⟨some 42, .load true 3 (.t 41), none, []⟩,
  ⟨some 43, .call true (.c (.fn 169 [])) [.t 39, .t 42], none, []⟩,
  ⟨none, .store false 3 (.t 6) (.t 43), none, []⟩]
def r192_7 : List VOper := [
  ⟨some 44, .move (.t 0), none, []⟩,
  ⟨some 45, .move (.t 1), none, []⟩,
  ⟨some 46, .move (.t 2), none, []⟩,
  ⟨some 47, .build [.int .i64 0, .int .i64 0, .sl .nil []] [(0, 1, .t 45), (2, 1, .t 46)], none, []⟩,
  ⟨some 48, .call true (.c (.fn 169 [])) [.t 44, .t 47], none, []⟩,
  ⟨none, .store false 3 (.t 6) (.t 48), none, []⟩]
def v192 : VFn := ⟨3, [.cell 6 true 3], (.seq (.region false 1 [0, 1, 2, 6] r192_0) (.seq (.block 0 (.seq (.region false 0 [0, 1, 2, 6, 7] r192_1) (.cond (.t 7) (.seq (.region false 0 [6] r192_2) .ret) (.seq (.region false 0 [0, 1, 2, 6, 16] r192_3) (.cond (.t 16) (.seq (.region false 0 [6] r192_4) .ret) (.seq (.region false 0 [0, 1, 2, 6, 28] r192_5) (.cond (.t 28) (.seq (.region false 0 [6] r192_6) .ret) .skip))))))) (.seq (.region false 0 [6] r192_7) .ret)))⟩
/-! loop.example/g00461/spec.Make -/
def r193_0 : List VOper := [
  ⟨some 6, .alloc 0 [.int .i64 0, .int .i64 0, .sl .nil []], none, []⟩]
def r193_1 : List VOper := [
  ⟨some 7, .move (.t 0), none, []⟩,
  ⟨some 8, .move (.t 1), none, []⟩,
  ⟨some 9, .call true (.c (.fn 33 [])) [.t 7, .t 8], none, []⟩,
  ⟨some 10, .move (.t 9), none, []⟩,
  ⟨some 11, .move (.t 2), some (10, true), []⟩,
  ⟨some 12, .len false (.t 11), some (10, true), []⟩,
  ⟨some 13, .bin .eql (.t 12) (.c (.d (.int .i64 0))), some (10, true), []⟩,
  ⟨some 14, .pick (.t 10) (.t 13) (.c (.d (.bool false))), none, []⟩]
def r193_2 : List VOper := [
  ⟨some 15, .build [.int .i64 0, .int .i64 0, .sl .nil []] [], none, []⟩,
  ⟨none, .store false 3 (.t 6) (.t 15), none, []⟩]
def r193_3 : List VOper := [
  ⟨some 16, .move (.t 0), none, []⟩,
  ⟨some 17, .move (.t 1), none, []⟩,
  ⟨some 18, .call true (.c (.fn 33 [])) [.t 16, .t 17], none, []⟩,
  ⟨some 19, .move (.t 18), none, []⟩,
  ⟨some 20, .move (.t 2), some (19, true), []⟩,
  ⟨some 21, .len false (.t 20), some (19, true), []⟩,
  ⟨some 22, .bin .eql (.t 21) (.c (.d (.int .i64 1))), some (19, true), []⟩,
  ⟨some 23, .pick (.t 19) (.t 22) (.c (.d (.bool false))), none, []⟩]
def r193_4 : List VOper := [
  ⟨some 24, .move (.t 0), none, []⟩,
  ⟨some 25, .move (.t 2), none, []⟩,
  ⟨some 26, .indexAddr 3 none (.t 25) (.c (.d (.int .i64 0))), none, []⟩,
  ⟨some 27, .load true 3 (.t 26), none, []⟩,
  ⟨some 28, .call true (.c (.fn 153 [])) [.t 24, .t 27], none, []⟩,
  ⟨none, .store false 3 (.t 6) (.t 28), none, []⟩]
def r193_5 : List VOper := [
  ⟨some 29, .move (.t 1), none, []⟩,
  ⟨some 30, .move (.t 0), none, []⟩,
  ⟨some 31, .len false (.t 30), none, []⟩,
  ⟨some 32, .bin .sub (.t 31) (.c (.d (.int .i64 1))), none, []⟩,
  ⟨some 33, .call true (.c (.fn 31 [])) [.t 29, .c (.d (.int .i64 0)), .t 32], none, []⟩,
  ⟨some 34, .not (.t 33), none, []⟩]
def r193_6 : List VOper := [
  ⟨some 35, .move (.t 1), none, []⟩,
  ⟨some 36, .move (.t 2), none, []⟩,
  ⟨some 37, .call true (.c (.fn 197 [])) [.t 36], none, []⟩,
  ⟨some 38, .call true (.c (.fn 164 [])) [.t 35, .t 37], none, []⟩,
  ⟨none, .store false 3 (.t 6) (.t 38), none, []⟩]
def r193_7 : List VOper := [
  ⟨some 39, .move (.t 0), none, []⟩,
  ⟨some 40, .move (.t 1), none, []⟩,
  ⟨some 41, .move (.t 2), none, []⟩,
  ⟨some 42, .call true (.c (.fn 164 [])) [.t 40, .t 41], none, []⟩,
  ⟨some 43, .call true (.c (.fn 153 [])) [.t 39, .t 42], none, []⟩,
  ⟨none, .store false 3 (.t 6) (.t 43), none, []⟩]
def v193 : VFn := ⟨3, [.cell 6 true 3], (.seq (.region false 1 [0, 1, 2, 6] r193_0) (.seq (.seq (.region false 0 [0, 1, 2, 6, 14] r193_1) (.cond (.t 14) (.seq (.region false 0 [6] r193_2) .ret) .skip)) (.seq (.seq (.region false 0 [0, 1, 2, 6, 23] r193_3) (.cond (.t 23) (.seq (.region false 0 [6] r193_4) .ret) .skip)) (.seq (.seq (.region false 0 [0, 1, 2, 6, 34] r193_5) (.cond (.t 34) (.seq (.region false 0 [6] r193_6) .ret) .skip)) (.seq (.region false 0 [6] r193_7) .ret)))))⟩
/-! loop.example/g00461/spec.l4Draw -/
def r194_0 : List VOper := [
  ⟨some 2, .move (.c (.d (.sl .nil []))), none, []⟩,
  ⟨some 3, .alloc 0 [.int .i64 0, .int .i64 0, .sl .nil []], none, []⟩]
def r194_1 : List VOper := [
  ⟨some 6, .move (.t 0), none, []⟩,
  ⟨some 7, .call false (.c (.fn 156 [])) [.t 6], none, []⟩,
  ⟨some 4, .move (.t 7), none, []⟩]
def r194_2 : List VOper := [
  ⟨some 8, .move (.t 4), none, []⟩,
  ⟨some 9, .callS 8 (.c (.fn 161 [])) [.t 8], none, []⟩,
  ⟨some 5, .alloc 0 [.int .i64 0, .int .i64 0, .sl .nil []], none, []⟩,
  ⟨none, .store false 3 (.t 5) (.t 9), none, []⟩]
def r194_3 : List VOper := [
  ⟨some 10, .move (.t 4), none, []⟩,
  ⟨some 11, .call false (.c (.fn 162 [])) [.t 10, .c (.d (.int .i64 8))], none, []⟩]
def r194_4 : List VOper := [
  ⟨some 12, .move (.t 4), none, []⟩,
  ⟨some 13, .callS 4 (.c (.fn 195 [])) [.t 12], none, [0]⟩,
  ⟨some 14, .loadS true 3 (.t 5) 4, none, []⟩,
  ⟨some 2, .move (.t 13), none, [0, 1]⟩,
  ⟨none, .store false 3 (.t 3) (.t 14), none, [0, 1, 2, 3]⟩]
def r194_5 : List VOper := [
  ⟨some 15, .call true (.c (.fn 155 [])) [], none, []⟩,
  ⟨some 16, .load true 3 (.t 5), none, []⟩,
  ⟨some 2, .move (.t 15), none, [0]⟩,
  ⟨none, .store false 3 (.t 3) (.t 16), none, [0, 1, 2]⟩]
def v194 : VFn := ⟨1, [.tmp 2, .cell 3 true 3], (.seq (.region false 1 [0, 3] r194_0) (.seq (.region false 0 [3, 4] r194_1) (.seq (.region false 1 [3, 4, 5] r194_2) (.seq (.seq (.region false 0 [3, 4, 5, 11] r194_3) (.cond (.t 11) (.seq (.region true 0 [2, 3] r194_4) .ret) .skip)) (.seq (.region true 0 [2, 3] r194_5) .ret)))))⟩
/-! loop.example/g00461/spec.l2Draw -/
def r195_0 : List VOper := [
  ⟨some 2, .move (.c (.d (.sl .nil []))), none, []⟩]
def r195_1 : List VOper := [
  ⟨some 4, .call true (.c (.fn 155 [])) [], none, []⟩,
  ⟨some 3, .move (.t 4), none, []⟩]
def r195_2 : List VOper := [
  ⟨some 5, .move (.t 0), none, []⟩,
  ⟨some 6, .call false (.c (.fn 159 [])) [.t 5, .c (.d (.int .i64 10))], none, []⟩]
def r195_3 : List VOper := [
  ⟨some 8, .bin .eql (.t 6) (.c (.d (.int .i64 0))), none, []⟩,
  ⟨some 7, .move (.t 8), none, []⟩]
def r195_4 : List VOper := [
  ⟨some 9, .move (.t 3), none, []⟩,
  ⟨some 10, .move (.t 0), none, []⟩,
  ⟨some 11, .buildSlice 1 (.str ⟨#[]⟩) 6 [(0, .c (.d (.str ⟨#[]⟩))), (1, .c (.d (.str ⟨#[65]⟩))), (2, .c (.d (.str ⟨#[116, 116]⟩))), (3, .c (.d (.str ⟨#[97, 98, 99, 100, 101, 102, 103, 104, 105]⟩))), (4, .c (.d (.str ⟨#[49, 97]⟩))), (5, .c (.d (.str ⟨#[97, 49]⟩)))], none, []⟩,
  ⟨some 12, .call false (.c (.fn 196 [])) [.t 10, .t 11], none, []⟩,
  ⟨some 13, .indexAddr 3 none (.t 9) (.c (.d (.int .i64 1))), none, []⟩,
  ⟨some 14, .fieldAddr 0 (.t 13), none, []⟩,
  ⟨none, .store false 1 (.t 14) (.t 12), none, []⟩]
def r195_5 : List VOper := [
  ⟨some 16, .bin .eql (.t 6) (.c (.d (.int .i64 1))), none, []⟩,
  ⟨some 15, .move (.t 16), none, []⟩]
def r195_6 : List VOper := [
  ⟨some 17, .move (.t 3), none, []⟩,
  ⟨some 18, .move (.t 0), none, []⟩,
  ⟨some 19, .buildSlice 1 (.int .i64 0) 3 [(0, .c (.d (.int .i64 (-1)))), (1, .c (.d (.int .i64 3))), (2, .c (.d (.int .i64 4)))], none, []⟩,
  ⟨some 20, .call false (.c (.fn 160 [])) [.t 18, .t 19], none, []⟩,
  ⟨some 21, .indexAddr 3 none (.t 17) (.c (.d (.int .i64 2))), none, []⟩,
  ⟨some 22, .fieldAddr 1 (.t 21), none, []⟩,
  ⟨none, .store false 1 (.t 22) (.t 20), none, []⟩]
def r195_7 : List VOper := [
  ⟨some 24, .bin .eql (.t 6) (.c (.d (.int .i64 2))), none, []⟩,
  ⟨some 23, .move (.t 24), none, []⟩]
def r195_8 : List VOper := [
  ⟨some 25, .move (.t 3), none, []⟩,
  ⟨some 26, .indexAddr 3 none (.t 25) (.c (.d (.int .i64 3))), none, []⟩,
  ⟨some 27, .fieldAddr 2 (.t 26), none, []⟩,
  ⟨none, .store false 1 (.t 27) (.c (.d (.bool true))), none, []⟩]
def r195_9 : List VOper := [
  ⟨some 29, .bin .eql (.t 6) (.c (.d (.int .i64 3))), none, []⟩,
  ⟨some 28, .move (.t 29), none, []⟩]
def r195_10 : List VOper := [
  ⟨some 30, .move (.t 3), none, []⟩,
  ⟨some 31, .slice false 3 (.t 30) (some (.c (.d (.int .i64 1)))) none, none, []⟩,
  ⟨some 2, .move (.t 31), none, []⟩]
def r195_11 : List VOper := [
  ⟨some 33, .bin .eql (.t 6) (.c (.d (.int .i64 4))), none, []⟩,
  ⟨some 32, .move (.t 33), none, []⟩]
def r195_12 : List VOper := [
  ⟨some 34, .move (.t 3), none, []⟩,
  ⟨some 35, .move (.t 0), none, []⟩,
  ⟨some 36, .call false (.c (.fn 159 [])) [.t 35, .c (.d (.int .i64 4))], none, []⟩,
  ⟨some 37, .slice false 3 (.t 34) none (some (.t 36)), none, []⟩,
  ⟨some 2, .move (.t 37), none, []⟩]
def r195_13 : List VOper := [
  ⟨some 39, .bin .eql (.t 6) (.c (.d (.int .i64 5))), none, []⟩,
  ⟨some 38, .move (.t 39), none, []⟩]
def r195_14 : List VOper := [
  ⟨some 40, .move (.t 3), none, []⟩,
  ⟨some 41, .build [.str ⟨#[]⟩, .int .i64 0, .bool false] [(0, 1, .c (.d (.str ⟨#[120, 49]⟩)))], none, []⟩,
  ⟨some 42, .move (.t 0), none, []⟩,
  ⟨some 43, .buildSlice 1 (.str ⟨#[]⟩) 2 [(0, .c (.d (.str ⟨#[120, 50]⟩))), (1, .c (.d (.str ⟨#[120, 49]⟩)))], none, []⟩,
  ⟨some 44, .call false (.c (.fn 196 [])) [.t 42, .t 43], none, []⟩,
  ⟨some 45, .build [.str ⟨#[]⟩, .int .i64 0, .bool false] [(0, 1, .t 44)], none, []⟩,
  ⟨some 46, .buildSlice 3 (.agg [.str ⟨#[]⟩, .int .i64 0, .bool false]) 2 [(0, .t 41), (1, .t 45)], none, []⟩,
  ⟨some 47, .append 3 32 (.t 40) (.t 46), none, []⟩,
  ⟨some 2, .move (.t 47), none, []⟩]
def r195_15 : List VOper := [
  ⟨some 48, .move (.t 3), none, []⟩,
  ⟨some 2, .move (.t 48), none, []⟩]
def v195 : VFn := ⟨1, [.tmp 2], (.seq (.region false 0 [0] r195_0) (.seq (.region false 0 [0, 3] r195_1) (.seq (.seq (.region false 0 [0, 3, 6] r195_2) (.block 0 (.seq (.region false 0 [0, 3, 6, 7] r195_3) (.cond (.t 7) (.ghost (.focR 3 [0]) (.region false 0 [3] r195_4)) (.seq (.region false 0 [0, 3, 6, 15] r195_5) (.cond (.t 15) (.ghost (.focR 3 [0]) (.region false 0 [3] r195_6)) (.seq (.region false 0 [0, 3, 6, 23] r195_7) (.cond (.t 23) (.ghost (.focR 3 [0]) (.region false 0 [3] r195_8)) (.seq (.region false 0 [0, 3, 6, 28] r195_9) (.cond (.t 28) (.seq (.region false 0 [2] r195_10) .ret) (.seq (.region false 0 [0, 3, 6, 32] r195_11) (.cond (.t 32) (.seq (.region false 0 [2] r195_12) .ret) (.seq (.region false 0 [0, 3, 38] r195_13) (.cond (.t 38) (.seq (.region false 0 [2] r195_14) .ret) .skip)))))))))))))) (.seq (.ghost (.frzR 3 1 []) (.region false 0 [2] r195_15)) .ret))))⟩
/-! loop.example/g00461/spec.l1Pick -/
def r196_0 : List VOper := [
  ⟨some 4, .move (.c (.d (.str ⟨#[]⟩))), none, []⟩]
def r196_1 : List VOper := [
  ⟨some 5, .move (.t 1), none, []⟩,
  ⟨some 6, .move (.t 0), none, []⟩,
  ⟨some 7, .move (.t 1), none, []⟩,
  ⟨some 8, .len false (.t 7), none, []⟩,
  ⟨some 9, .call false (.c (.fn 159 [])) [.t 6, .t 8], none, []⟩,
  ⟨some 10, .indexAddr 1 none (.t 5) (.t 9), none, []⟩,
  ⟨some 11, .load false 1 (.t 10), none, []⟩,
  ⟨some 4, .move (.t 11), none, []⟩]
def v196 : VFn := ⟨2, [.tmp 4], (.seq (.region false 0 [0, 1] r196_0) (.seq (.region false 0 [4] r196_1) .ret))⟩
/-! loop.example/g00461/spec.l3List -/
def r197_0 : List VOper := [
  ⟨some 2, .move (.c (.d (.sl .nil []))), none, []⟩]
def r197_1 : List VOper := [
  ⟨some 5, .buildSlice 3 (.agg [.int .i64 0, .int .i64 0, .sl .nil []]) 0 [], none, []⟩,
  ⟨some 3, .move (.t 5), none, []⟩]
def r197_2 : List VOper := [
  ⟨some 4, .move (.c (.d (.int .i64 0))), none, []⟩]
def r197_3 : List VOper := [
  ⟨some 6, .move (.t 4), none, []⟩,
  ⟨some 7, .move (.t 0), none, []⟩,
  ⟨some 8, .len false (.t 7), none, []⟩,
  ⟨some 9, .bin .lss (.t 6) (.t 8), none, []⟩]
def r197_5 : List VOper := [
  ⟨some 12, .move (.t 3), none, []⟩,
  ⟨some 13, .move (.t 0), none, []⟩,
  ⟨some 14, .move (.t 4), none, []⟩,
  ⟨some 15, .indexAddr 3 none (.t 13) (.t 14), none, []⟩,
  ⟨some 16, .load true 3 (.t 15), none, []⟩,
  ⟨some 17, .call true (.c (.fn 146 [])) [.t 16], none, []⟩,
  ⟨some 18, .buildSlice 3 (.agg [.int .i64 0, .int .i64 0, .sl .nil []]) 1 [(0, .t 17)], none, []⟩,
  ⟨some 19, .append 3 40 (.t 12) (.t 18), none, []⟩,
  ⟨some 3, .move (.t 19), none, []⟩]
def r197_4 : List VOper := [
  ⟨some 10, .move (.t 4), none, []⟩,
  ⟨some 11, .bin .add (.t 10) (.c (.d (.int .i64 1))), none, []⟩,
  ⟨some 4, .move (.t 11), none, []⟩]
def b197_0 : VCode := (.seq (.seq (.region false 0 [0, 3, 4, 9] r197_3) (.cond (.t 9) .skip (.exit 0))) (.seq (.block 1 (.region false 0 [0, 3, 4] r197_5)) (.region false 0 [0, 3, 4] r197_4)))
def r197_6 : List VOper := [
  ⟨some 20, .move (.t 3), none, []⟩,
  ⟨some 2, .move (.t 20), none, []⟩]
def v197 : VFn := ⟨1, [.tmp 2], (.seq (.region false 0 [0] r197_0) (.seq (.region false 0 [0, 3] r197_1) (.seq (.seq (.region false 0 [0, 3, 4] r197_2) (.block 0 (.loop [0, 3, 4] b197_0))) (.seq (.region false 0 [2] r197_6) .ret))))⟩
def look : List (Nat × VFn) → Nat → Option VFn
  | [], _ => none
  | (k, v) :: r, n => if n = k then some v else look r n
def codes : List (Nat × VFn) := [(3, v3), (4, v4), (6, v6), (29, v29), (30, v30), (31, v31), (33, v33), (34, v34), (84, v84), (133, v133), (146, v146), (147, v147), (150, v150), (151, v151), (153, v153), (154, v154), (155, v155), (156, v156), (159, v159), (160, v160), (161, v161), (162, v162), (163, v163), (164, v164), (165, v165), (166, v166), (170, v170), (171, v171), (172, v172), (173, v173), (174, v174), (175, v175), (189, v189), (190, v190), (191, v191), (192, v192), (193, v193), (194, v194), (195, v195), (196, v196), (197, v197)]
def s169 : SFn := specSF (.region false 2 [0, 3, 4] r169_0) (.region false 0 [0, 3, 4, 5] r169_1) (.seq (.region false 0 [0, 3, 4, 5, 10, 11, 12] r169_2) (.block 0 (.loop [0, 3, 4, 5, 10, 11, 12] b169_0))) (.region false 0 [3, 4, 5, 42] r169_10) 170 6
theorem s169_of : v169 = specFn (.region false 2 [0, 3, 4] r169_0) (.region false 0 [0, 3, 4, 5] r169_1) (.seq (.region false 0 [0, 3, 4, 5, 10, 11, 12] r169_2) (.block 0 (.loop [0, 3, 4, 5, 10, 11, 12] b169_0))) (.region false 0 [3, 4, 5, 42] r169_10) 170 6 := rfl
def specs : List (Nat × SFn) := [(169, s169)]
def bases : List (Nat × Nat) := [(161, 1), (195, 1)]
def lookB : List (Nat × Nat) → Nat → Option Nat
  | [], _ => none
  | (k, v) :: r, n => if n = k then some v else lookB r n
def nats : List (Nat × (List DV → Option DV)) := []
def E : Env := ⟨look codes, fun k => (lookN nats k).map natV, lookS specs, lookB bases⟩
theorem code_3 : E.code 3 = some v3 := by kernel_rfl
theorem code_4 : E.code 4 = some v4 := by kernel_rfl
theorem code_6 : E.code 6 = some v6 := by kernel_rfl
theorem code_29 : E.code 29 = some v29 := by kernel_rfl
theorem code_30 : E.code 30 = some v30 := by kernel_rfl
theorem code_31 : E.code 31 = some v31 := by kernel_rfl
theorem code_33 : E.code 33 = some v33 := by kernel_rfl
theorem code_34 : E.code 34 = some v34 := by kernel_rfl
theorem code_84 : E.code 84 = some v84 := by kernel_rfl
theorem code_133 : E.code 133 = some v133 := by kernel_rfl
theorem code_146 : E.code 146 = some v146 := by kernel_rfl
theorem code_147 : E.code 147 = some v147 := by kernel_rfl
theorem code_150 : E.code 150 = some v150 := by kernel_rfl
theorem code_151 : E.code 151 = some v151 := by kernel_rfl
theorem code_153 : E.code 153 = some v153 := by kernel_rfl
theorem code_154 : E.code 154 = some v154 := by kernel_rfl
theorem code_155 : E.code 155 = some v155 := by kernel_rfl
theorem code_156 : E.code 156 = some v156 := by kernel_rfl
theorem code_159 : E.code 159 = some v159 := by kernel_rfl
theorem code_160 : E.code 160 = some v160 := by kernel_rfl
theorem code_161 : E.code 161 = some v161 := by kernel_rfl
theorem code_162 : E.code 162 = some v162 := by kernel_rfl
theorem code_163 : E.code 163 = some v163 := by kernel_rfl
theorem code_164 : E.code 164 = some v164 := by kernel_rfl
theorem code_165 : E.code 165 = some v165 := by kernel_rfl
theorem code_166 : E.code 166 = some v166 := by kernel_rfl
theorem code_170 : E.code 170 = some v170 := by kernel_rfl
theorem code_171 : E.code 171 = some v171 := by kernel_rfl
theorem code_172 : E.code 172 = some v172 := by kernel_rfl
theorem code_173 : E.code 173 = some v173 := by kernel_rfl
theorem code_174 : E.code 174 = some v174 := by kernel_rfl
theorem code_175 : E.code 175 = some v175 := by kernel_rfl
theorem code_189 : E.code 189 = some v189 := by kernel_rfl
theorem code_190 : E.code 190 = some v190 := by kernel_rfl
theorem code_191 : E.code 191 = some v191 := by kernel_rfl
theorem code_192 : E.code 192 = some v192 := by kernel_rfl
theorem code_193 : E.code 193 = some v193 := by kernel_rfl
theorem code_194 : E.code 194 = some v194 := by kernel_rfl
theorem code_195 : E.code 195 = some v195 := by kernel_rfl
theorem code_196 : E.code 196 = some v196 := by kernel_rfl
theorem code_197 : E.code 197 = some v197 := by kernel_rfl
end Go.Proofs.Ytfiakfiocdfpbaa.VS
