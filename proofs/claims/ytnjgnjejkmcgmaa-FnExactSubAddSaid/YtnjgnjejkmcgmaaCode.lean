/- The code of the functions that the laws reach, for the evaluator. -/
import Derived.Test.YtnjgnjejkmcgmaaNat0
import Derived.KernelRfl
namespace Go.Proofs.Ytnjgnjejkmcgmaa.VS
set_option linter.unusedVariables false
/-! loop.example/g00461/laws.szTerm -/
def r1_0 : List VOper := [
  ⟨some 2, .box 0 (.t 0), none, []⟩,
  ⟨some 4, .move (.c (.d (.int .i64 0))), none, []⟩]
def r1_1 : List VOper := [
  ⟨some 5, .fieldAddr 2 (.t 2), none, []⟩,
  ⟨some 6, .load false 1 (.t 5), none, []⟩,
  ⟨some 7, .move (.t 1), none, []⟩,
  ⟨some 8, .call true (.c (.fn 9 [])) [.t 6, .t 7], none, []⟩,
  ⟨some 1, .move (.t 8), none, []⟩]
def r1_2 : List VOper := [
  ⟨some 9, .move (.t 1), none, []⟩,
  ⟨some 10, .bin .lss (.t 9) (.c (.d (.int .i64 0))), none, []⟩]
def r1_3 : List VOper := [
  ⟨some 4, .move (.c (.d (.int .i64 (-1)))), none, []⟩]
def r1_4 : List VOper := [
  ⟨some 11, .move (.t 1), none, []⟩,
  ⟨some 4, .move (.t 11), none, []⟩]
def v1 : VFn := ⟨2, [.tmp 4], (.seq (.region false 1 [1, 2] r1_0) (.seq (.region false 0 [1] r1_1) (.seq (.seq (.region false 0 [1, 10] r1_2) (.cond (.t 10) (.seq (.region false 0 [4] r1_3) .ret) .skip)) (.seq (.region false 0 [4] r1_4) .ret))))⟩
/-! loop.example/g00461/laws.toTerm -/
def r2_0 : List VOper := [
  ⟨some 1, .box 0 (.t 0), none, []⟩,
  ⟨some 2, .alloc 1 [.int .i64 0, .int .i64 0, .sl .nil []], none, []⟩]
def r2_1 : List VOper := [
  ⟨some 3, .alloc 0 [.int .i64 0, .int .i64 0, .sl .nil []], none, []⟩]
def r2_2 : List VOper := [
  ⟨some 4, .fieldAddr 0 (.t 1), none, []⟩,
  ⟨some 5, .load false 1 (.t 4), none, []⟩,
  ⟨some 6, .fieldAddr 0 (.t 3), none, []⟩,
  ⟨none, .store false 1 (.t 6) (.t 5), none, []⟩]
def r2_3 : List VOper := [
  ⟨some 7, .fieldAddr 1 (.t 1), none, []⟩,
  ⟨some 8, .load false 1 (.t 7), none, []⟩,
  ⟨some 9, .fieldAddr 1 (.t 3), none, []⟩,
  ⟨none, .store false 1 (.t 9) (.t 8), none, []⟩]
def r2_4 : List VOper := [
  ⟨some 10, .fieldAddr 2 (.t 1), none, []⟩,
  ⟨some 11, .load false 1 (.t 10), none, []⟩,
  ⟨some 12, .call true (.c (.fn 8 [])) [.t 11], none, []⟩,
  ⟨some 13, .fieldAddr 2 (.t 3), none, []⟩,
  ⟨none, .store false 1 (.t 13) (.t 12), none, []⟩]
def r2_5 : List VOper := [
  ⟨some 14, .load true 3 (.t 3), none, []⟩,
  ⟨none, .store false 3 (.t 2) (.t 14), none, []⟩]
def v2 : VFn := ⟨1, [.cell 2 true 3], (.seq (.region false 2 [1, 2] r2_0) (.seq (.region false 1 [1, 2, 3] r2_1) (.seq (.region false 0 [1, 2, 3] r2_2) (.seq (.region false 0 [1, 2, 3] r2_3) (.seq (.region false 0 [2, 3] r2_4) (.seq (.region false 0 [2] r2_5) .ret))))))⟩
/-! loop.example/g00461/spec.TermSame -/
def r3_0 : List VOper := [
  ⟨some 2, .box 0 (.t 0), none, []⟩,
  ⟨some 3, .box 1 (.t 1), none, []⟩,
  ⟨some 4, .move (.c (.d (.bool false))), none, []⟩]
def r3_1 : List VOper := [
  ⟨some 6, .fieldAddr 0 (.t 2), none, []⟩,
  ⟨some 7, .load false 1 (.t 6), none, []⟩,
  ⟨some 8, .fieldAddr 0 (.t 3), none, []⟩,
  ⟨some 9, .load false 1 (.t 8), none, []⟩,
  ⟨some 10, .bin .neq (.t 7) (.t 9), none, []⟩,
  ⟨some 11, .move (.t 10), none, []⟩,
  ⟨some 12, .fieldAddr 1 (.t 2), some (11, false), []⟩,
  ⟨some 13, .load false 1 (.t 12), some (11, false), []⟩,
  ⟨some 14, .fieldAddr 1 (.t 3), some (11, false), []⟩,
  ⟨some 15, .load false 1 (.t 14), some (11, false), []⟩,
  ⟨some 16, .bin .neq (.t 13) (.t 15), some (11, false), []⟩,
  ⟨some 17, .pick (.t 11) (.c (.d (.bool true))) (.t 16), none, []⟩,
  ⟨some 18, .move (.t 17), none, []⟩,
  ⟨some 19, .fieldAddr 2 (.t 2), some (18, false), []⟩,
  ⟨some 20, .load false 1 (.t 19), some (18, false), []⟩,
  ⟨some 21, .len false (.t 20), some (18, false), []⟩,
  ⟨some 22, .fieldAddr 2 (.t 3), some (18, false), []⟩,
  ⟨some 23, .load false 1 (.t 22), some (18, false), []⟩,
  ⟨some 24, .len false (.t 23), some (18, false), []⟩,
  ⟨some 25, .bin .neq (.t 21) (.t 24), some (18, false), []⟩,
  ⟨some 26, .pick (.t 18) (.c (.d (.bool true))) (.t 25), none, []⟩]
def r3_2 : List VOper := [
  ⟨some 4, .move (.c (.d (.bool false))), none, []⟩]
def r3_3 : List VOper := [
  ⟨some 5, .move (.c (.d (.int .i64 0))), none, []⟩]
def r3_4 : List VOper := [
  ⟨some 27, .move (.t 5), none, []⟩,
  ⟨some 28, .fieldAddr 2 (.t 2), none, []⟩,
  ⟨some 29, .load false 1 (.t 28), none, []⟩,
  ⟨some 30, .len false (.t 29), none, []⟩,
  ⟨some 31, .bin .lss (.t 27) (.t 30), none, []⟩]
def r3_6 : List VOper := [
  ⟨some 34, .fieldAddr 2 (.t 2), none, []⟩,
  ⟨some 35, .load false 1 (.t 34), none, [0]⟩,
  ⟨some 36, .move (.t 5), none, []⟩,
  ⟨some 37, .indexAddr 3 none (.t 35) (.t 36), none, [1, 2]⟩,
  ⟨some 38, .load true 3 (.t 37), none, [3]⟩,
  ⟨some 39, .fieldAddr 2 (.t 3), none, []⟩,
  ⟨some 40, .load false 1 (.t 39), none, [5]⟩,
  ⟨some 41, .move (.t 5), none, []⟩,
  ⟨some 42, .indexAddr 3 none (.t 40) (.t 41), none, [6, 7]⟩,
  ⟨some 43, .load true 3 (.t 42), none, [8]⟩,
  ⟨some 44, .call true (.c (.fn 3 [])) [.t 38, .t 43], none, [4, 9]⟩,
  ⟨some 45, .not (.t 44), none, [10]⟩]
def r3_7 : List VOper := [
  ⟨some 4, .move (.c (.d (.bool false))), none, []⟩]
def r3_5 : List VOper := [
  ⟨some 32, .move (.t 5), none, []⟩,
  ⟨some 33, .bin .add (.t 32) (.c (.d (.int .i64 1))), none, []⟩,
  ⟨some 5, .move (.t 33), none, []⟩]
def b3_0 : VCode := (.seq (.seq (.region false 0 [2, 3, 5, 31] r3_4) (.cond (.t 31) .skip (.exit 0))) (.seq (.block 1 (.seq (.region true 0 [2, 3, 5, 45] r3_6) (.cond (.t 45) (.seq (.region false 0 [4] r3_7) .ret) .skip))) (.region false 0 [2, 3, 5] r3_5)))
def r3_8 : List VOper := [
  ⟨some 4, .move (.c (.d (.bool true))), none, []⟩]
def v3 : VFn := ⟨2, [.tmp 4], (.seq (.region false 2 [2, 3] r3_0) (.seq (.seq (.region false 0 [2, 3, 26] r3_1) (.cond (.t 26) (.seq (.region false 0 [4] r3_2) .ret) .skip)) (.seq (.seq (.region false 0 [2, 3, 5] r3_3) (.block 0 (.loop [2, 3, 5] b3_0))) (.seq (.region false 0 [4] r3_8) .ret))))⟩
/-! loop.example/g00461/laws.eqTerm -/
def r5_0 : List VOper := [
  ⟨some 2, .box 0 (.t 0), none, []⟩,
  ⟨some 3, .box 1 (.t 1), none, []⟩,
  ⟨some 4, .move (.c (.d (.bool false))), none, []⟩]
def r5_1 : List VOper := [
  ⟨some 5, .fieldAddr 0 (.t 2), none, []⟩,
  ⟨some 6, .load false 1 (.t 5), none, []⟩,
  ⟨some 7, .fieldAddr 0 (.t 3), none, []⟩,
  ⟨some 8, .load false 1 (.t 7), none, []⟩,
  ⟨some 9, .bin .neq (.t 6) (.t 8), none, []⟩]
def r5_2 : List VOper := [
  ⟨some 4, .move (.c (.d (.bool false))), none, []⟩]
def r5_3 : List VOper := [
  ⟨some 10, .fieldAddr 1 (.t 2), none, []⟩,
  ⟨some 11, .load false 1 (.t 10), none, []⟩,
  ⟨some 12, .fieldAddr 1 (.t 3), none, []⟩,
  ⟨some 13, .load false 1 (.t 12), none, []⟩,
  ⟨some 14, .bin .neq (.t 11) (.t 13), none, []⟩]
def r5_4 : List VOper := [
  ⟨some 4, .move (.c (.d (.bool false))), none, []⟩]
def r5_5 : List VOper := [
  ⟨some 15, .fieldAddr 2 (.t 2), none, []⟩,
  ⟨some 16, .load false 1 (.t 15), none, []⟩,
  ⟨some 17, .fieldAddr 2 (.t 3), none, []⟩,
  ⟨some 18, .load false 1 (.t 17), none, []⟩,
  ⟨some 19, .call true (.c (.fn 7 [])) [.t 16, .t 18], none, []⟩,
  ⟨some 20, .not (.t 19), none, []⟩]
def r5_6 : List VOper := [
  ⟨some 4, .move (.c (.d (.bool false))), none, []⟩]
def r5_7 : List VOper := [
  ⟨some 4, .move (.c (.d (.bool true))), none, []⟩]
def v5 : VFn := ⟨2, [.tmp 4], (.seq (.region false 2 [2, 3] r5_0) (.seq (.seq (.region false 0 [2, 3, 9] r5_1) (.cond (.t 9) (.seq (.region false 0 [4] r5_2) .ret) .skip)) (.seq (.seq (.region false 0 [2, 3, 14] r5_3) (.cond (.t 14) (.seq (.region false 0 [4] r5_4) .ret) .skip)) (.seq (.seq (.region false 0 [20] r5_5) (.cond (.t 20) (.seq (.region false 0 [4] r5_6) .ret) .skip)) (.seq (.region false 0 [4] r5_7) .ret)))))⟩
/-! loop.example/g00461/impl.compare -/
def r6_0 : List VOper := [
  ⟨some 2, .box 0 (.t 0), none, []⟩,
  ⟨some 3, .box 1 (.t 1), none, []⟩,
  ⟨some 4, .move (.c (.d (.int .i64 0))), none, []⟩]
def r6_1 : List VOper := [
  ⟨some 9, .fieldAddr 0 (.t 2), none, []⟩,
  ⟨some 10, .load false 1 (.t 9), none, []⟩,
  ⟨some 11, .fieldAddr 0 (.t 3), none, []⟩,
  ⟨some 12, .load false 1 (.t 11), none, []⟩,
  ⟨some 13, .build [.int .i64 0, .int .i64 0] [(0, 1, .t 10), (1, 1, .t 12)], none, []⟩,
  ⟨some 14, .fieldAddr 1 (.t 2), none, []⟩,
  ⟨some 15, .load false 1 (.t 14), none, []⟩,
  ⟨some 16, .fieldAddr 1 (.t 3), none, []⟩,
  ⟨some 17, .load false 1 (.t 16), none, []⟩,
  ⟨some 18, .build [.int .i64 0, .int .i64 0] [(0, 1, .t 15), (1, 1, .t 17)], none, []⟩,
  ⟨some 19, .fieldAddr 2 (.t 2), none, []⟩,
  ⟨some 20, .load false 1 (.t 19), none, []⟩,
  ⟨some 21, .len false (.t 20), none, []⟩,
  ⟨some 22, .fieldAddr 2 (.t 3), none, []⟩,
  ⟨some 23, .load false 1 (.t 22), none, []⟩,
  ⟨some 24, .len false (.t 23), none, []⟩,
  ⟨some 25, .build [.int .i64 0, .int .i64 0] [(0, 1, .t 21), (1, 1, .t 24)], none, []⟩,
  ⟨some 26, .buildSlice 2 (.agg [.int .i64 0, .int .i64 0]) 3 [(0, .t 13), (1, .t 18), (2, .t 25)], none, []⟩,
  ⟨some 27, .len false (.t 26), none, []⟩,
  ⟨some 28, .move (.c (.d (.int .i64 0))), none, []⟩]
def r6_2 : List VOper := [
  ⟨some 29, .bin .lss (.t 28) (.t 27), none, []⟩]
def r6_3 : List VOper := [
  ⟨some 30, .indexAddr 2 none (.t 26) (.t 28), none, []⟩,
  ⟨some 31, .load true 2 (.t 30), none, []⟩,
  ⟨some 6, .alloc 0 [.int .i64 0, .int .i64 0], none, []⟩,
  ⟨none, .store false 2 (.t 6) (.t 31), none, []⟩]
def r6_4 : List VOper := [
  ⟨some 33, .indexAddr 1 (some 2) (.t 6) (.c (.d (.int .i64 0))), none, []⟩,
  ⟨some 34, .load false 1 (.t 33), none, []⟩,
  ⟨some 35, .indexAddr 1 (some 2) (.t 6) (.c (.d (.int .i64 1))), none, []⟩,
  ⟨some 36, .load false 1 (.t 35), none, []⟩,
  ⟨some 37, .bin .lss (.t 34) (.t 36), none, []⟩,
  ⟨some 32, .move (.t 37), none, []⟩]
def r6_5 : List VOper := [
  ⟨some 4, .move (.c (.d (.int .i64 (-1)))), none, []⟩]
def r6_6 : List VOper := [
  ⟨some 39, .indexAddr 1 (some 2) (.t 6) (.c (.d (.int .i64 0))), none, []⟩,
  ⟨some 40, .load false 1 (.t 39), none, []⟩,
  ⟨some 41, .indexAddr 1 (some 2) (.t 6) (.c (.d (.int .i64 1))), none, []⟩,
  ⟨some 42, .load false 1 (.t 41), none, []⟩,
  ⟨some 43, .bin .gtr (.t 40) (.t 42), none, []⟩,
  ⟨some 38, .move (.t 43), none, []⟩]
def r6_7 : List VOper := [
  ⟨some 4, .move (.c (.d (.int .i64 1))), none, []⟩]
def r6_8 : List VOper := [
  ⟨some 44, .bin .add (.t 28) (.c (.d (.int .i64 1))), none, []⟩,
  ⟨some 28, .move (.t 44), none, []⟩]
def b6_0 : VCode := (.seq (.region false 0 [2, 3, 26, 27, 28, 29] r6_2) (.seq (.cond (.t 29) .skip (.exit 0)) (.seq (.block 1 (.seq (.region false 1 [2, 3, 6, 26, 27, 28] r6_3) (.block 2 (.seq (.region false 0 [2, 3, 6, 26, 27, 28, 32] r6_4) (.cond (.t 32) (.seq (.region false 0 [4] r6_5) .ret) (.seq (.region false 0 [2, 3, 26, 27, 28, 38] r6_6) (.cond (.t 38) (.seq (.region false 0 [4] r6_7) .ret) .skip))))))) (.region false 0 [2, 3, 26, 27, 28] r6_8))))
def r6_9 : List VOper := [
  ⟨some 45, .fieldAddr 2 (.t 2), none, []⟩,
  ⟨some 46, .load false 1 (.t 45), none, []⟩,
  ⟨some 47, .len false (.t 46), none, []⟩,
  ⟨some 48, .move (.c (.d (.int .i64 0))), none, []⟩]
def r6_10 : List VOper := [
  ⟨some 49, .bin .lss (.t 48) (.t 47), none, []⟩]
def r6_11 : List VOper := [
  ⟨some 50, .move (.t 48), none, []⟩,
  ⟨some 7, .move (.t 50), none, []⟩]
def r6_12 : List VOper := [
  ⟨some 51, .fieldAddr 2 (.t 2), none, []⟩,
  ⟨some 52, .load false 1 (.t 51), none, [0]⟩,
  ⟨some 53, .move (.t 7), none, []⟩,
  ⟨some 54, .indexAddr 3 none (.t 52) (.t 53), none, [1, 2]⟩,
  ⟨some 55, .load true 3 (.t 54), none, [3]⟩,
  ⟨some 56, .fieldAddr 2 (.t 3), none, []⟩,
  ⟨some 57, .load false 1 (.t 56), none, [5]⟩,
  ⟨some 58, .move (.t 7), none, []⟩,
  ⟨some 59, .indexAddr 3 none (.t 57) (.t 58), none, [6, 7]⟩,
  ⟨some 60, .load true 3 (.t 59), none, [8]⟩,
  ⟨some 61, .call true (.c (.fn 6 [])) [.t 55, .t 60], none, [4, 9]⟩,
  ⟨some 8, .move (.t 61), none, [0, 1, 2, 3, 4, 5, 6, 7, 8, 9, 10]⟩]
def r6_13 : List VOper := [
  ⟨some 62, .move (.t 8), none, []⟩,
  ⟨some 63, .bin .neq (.t 62) (.c (.d (.int .i64 0))), none, []⟩]
def r6_14 : List VOper := [
  ⟨some 64, .move (.t 8), none, []⟩,
  ⟨some 4, .move (.t 64), none, []⟩]
def r6_15 : List VOper := [
  ⟨some 65, .bin .add (.t 48) (.c (.d (.int .i64 1))), none, []⟩,
  ⟨some 48, .move (.t 65), none, []⟩]
def b6_1 : VCode := (.seq (.region false 0 [2, 3, 47, 48, 49] r6_10) (.seq (.cond (.t 49) .skip (.exit 3)) (.seq (.block 4 (.seq (.region false 0 [2, 3, 7, 47, 48] r6_11) (.seq (.region true 0 [2, 3, 8, 47, 48] r6_12) (.seq (.region false 0 [2, 3, 8, 47, 48, 63] r6_13) (.cond (.t 63) (.seq (.region false 0 [4] r6_14) .ret) .skip))))) (.region false 0 [2, 3, 47, 48] r6_15))))
def r6_16 : List VOper := [
  ⟨some 4, .move (.c (.d (.int .i64 0))), none, []⟩]
def v6 : VFn := ⟨2, [.tmp 4], (.seq (.region false 2 [2, 3] r6_0) (.seq (.seq (.region false 0 [2, 3, 26, 27, 28] r6_1) (.block 0 (.loop [2, 3, 26, 27, 28] b6_0))) (.seq (.seq (.region false 0 [2, 3, 47, 48] r6_9) (.block 3 (.loop [2, 3, 47, 48] b6_1))) (.seq (.region false 0 [4] r6_16) .ret))))⟩
/-! loop.example/g00461/laws.eqTermS -/
def r7_0 : List VOper := [
  ⟨some 4, .move (.c (.d (.bool false))), none, []⟩]
def r7_1 : List VOper := [
  ⟨some 6, .move (.t 0), none, []⟩,
  ⟨some 7, .len false (.t 6), none, []⟩,
  ⟨some 8, .move (.t 1), none, []⟩,
  ⟨some 9, .len false (.t 8), none, []⟩,
  ⟨some 10, .bin .neq (.t 7) (.t 9), none, []⟩]
def r7_2 : List VOper := [
  ⟨some 4, .move (.c (.d (.bool false))), none, []⟩]
def r7_3 : List VOper := [
  ⟨some 5, .move (.c (.d (.int .i64 0))), none, []⟩]
def r7_4 : List VOper := [
  ⟨some 11, .move (.t 5), none, []⟩,
  ⟨some 12, .move (.t 0), none, []⟩,
  ⟨some 13, .len false (.t 12), none, []⟩,
  ⟨some 14, .bin .lss (.t 11) (.t 13), none, []⟩]
def r7_6 : List VOper := [
  ⟨some 17, .move (.t 0), none, []⟩,
  ⟨some 18, .move (.t 5), none, []⟩,
  ⟨some 19, .indexAddr 3 none (.t 17) (.t 18), none, [0, 1]⟩,
  ⟨some 20, .load true 3 (.t 19), none, [2]⟩,
  ⟨some 21, .move (.t 1), none, []⟩,
  ⟨some 22, .move (.t 5), none, []⟩,
  ⟨some 23, .indexAddr 3 none (.t 21) (.t 22), none, [4, 5]⟩,
  ⟨some 24, .load true 3 (.t 23), none, [6]⟩,
  ⟨some 25, .call true (.c (.fn 5 [])) [.t 20, .t 24], none, [3, 7]⟩,
  ⟨some 26, .not (.t 25), none, [8]⟩]
def r7_7 : List VOper := [
  ⟨some 4, .move (.c (.d (.bool false))), none, []⟩]
def r7_5 : List VOper := [
  ⟨some 15, .move (.t 5), none, []⟩,
  ⟨some 16, .bin .add (.t 15) (.c (.d (.int .i64 1))), none, []⟩,
  ⟨some 5, .move (.t 16), none, []⟩]
def b7_0 : VCode := (.seq (.seq (.region false 0 [0, 1, 5, 14] r7_4) (.cond (.t 14) .skip (.exit 0))) (.seq (.block 1 (.seq (.region true 0 [0, 1, 5, 26] r7_6) (.cond (.t 26) (.seq (.region false 0 [4] r7_7) .ret) .skip))) (.region false 0 [0, 1, 5] r7_5)))
def r7_8 : List VOper := [
  ⟨some 4, .move (.c (.d (.bool true))), none, []⟩]
def v7 : VFn := ⟨2, [.tmp 4], (.seq (.region false 0 [0, 1] r7_0) (.seq (.seq (.region false 0 [0, 1, 10] r7_1) (.cond (.t 10) (.seq (.region false 0 [4] r7_2) .ret) .skip)) (.seq (.seq (.region false 0 [0, 1, 5] r7_3) (.block 0 (.loop [0, 1, 5] b7_0))) (.seq (.region false 0 [4] r7_8) .ret))))⟩
/-! loop.example/g00461/laws.toTermS -/
def r8_0 : List VOper := [
  ⟨some 2, .move (.c (.d (.sl .nil []))), none, []⟩]
def r8_1 : List VOper := [
  ⟨some 5, .move (.t 0), none, []⟩,
  ⟨some 6, .len false (.t 5), none, []⟩,
  ⟨some 7, .makeSlice 0 3 40 (.agg [.int .i64 0, .int .i64 0, .sl .nil []]) (.t 6), none, []⟩,
  ⟨some 3, .move (.t 7), none, []⟩]
def r8_2 : List VOper := [
  ⟨some 4, .move (.c (.d (.int .i64 0))), none, []⟩]
def r8_3 : List VOper := [
  ⟨some 8, .move (.t 4), none, []⟩,
  ⟨some 9, .move (.t 0), none, []⟩,
  ⟨some 10, .len false (.t 9), none, []⟩,
  ⟨some 11, .bin .lss (.t 8) (.t 10), none, []⟩]
def r8_5 : List VOper := [
  ⟨some 14, .move (.t 3), none, []⟩,
  ⟨some 15, .move (.t 4), none, []⟩,
  ⟨some 16, .move (.t 0), none, []⟩,
  ⟨some 17, .move (.t 4), none, []⟩,
  ⟨some 18, .indexAddr 3 none (.t 16) (.t 17), none, []⟩,
  ⟨some 19, .load true 3 (.t 18), none, []⟩,
  ⟨some 20, .call true (.c (.fn 2 [])) [.t 19], none, []⟩,
  ⟨some 21, .indexAddr 3 none (.t 14) (.t 15), none, []⟩,
  ⟨none, .store false 3 (.t 21) (.t 20), none, []⟩]
def r8_4 : List VOper := [
  ⟨some 12, .move (.t 4), none, []⟩,
  ⟨some 13, .bin .add (.t 12) (.c (.d (.int .i64 1))), none, []⟩,
  ⟨some 4, .move (.t 13), none, []⟩]
def b8_0 : VCode := (.seq (.seq (.region false 0 [0, 3, 4, 11] r8_3) (.cond (.t 11) .skip (.exit 0))) (.seq (.block 1 (.region false 0 [0, 3, 4] r8_5)) (.region false 0 [0, 3, 4] r8_4)))
def r8_6 : List VOper := [
  ⟨some 22, .move (.t 3), none, []⟩,
  ⟨some 2, .move (.t 22), none, []⟩]
def v8 : VFn := ⟨1, [.tmp 2], (.seq (.region false 0 [0] r8_0) (.seq (.region false 1 [0, 3] r8_1) (.seq (.seq (.region false 0 [0, 3, 4] r8_2) (.block 0 (.loop [0, 3, 4] b8_0))) (.seq (.region false 0 [2] r8_6) .ret))))⟩
/-! loop.example/g00461/laws.szTermS -/
def r9_0 : List VOper := [
  ⟨some 4, .move (.c (.d (.int .i64 0))), none, []⟩]
def r9_1 : List VOper := [
  ⟨some 6, .move (.t 1), none, []⟩,
  ⟨some 7, .move (.t 0), none, []⟩,
  ⟨some 8, .len false (.t 7), none, []⟩,
  ⟨some 9, .bin .sub (.t 6) (.t 8), none, []⟩,
  ⟨some 1, .move (.t 9), none, []⟩]
def r9_2 : List VOper := [
  ⟨some 10, .move (.t 1), none, []⟩,
  ⟨some 11, .bin .lss (.t 10) (.c (.d (.int .i64 0))), none, []⟩]
def r9_3 : List VOper := [
  ⟨some 4, .move (.c (.d (.int .i64 (-1)))), none, []⟩]
def r9_4 : List VOper := [
  ⟨some 5, .move (.c (.d (.int .i64 0))), none, []⟩]
def r9_5 : List VOper := [
  ⟨some 12, .move (.t 5), none, []⟩,
  ⟨some 13, .move (.t 0), none, []⟩,
  ⟨some 14, .len false (.t 13), none, []⟩,
  ⟨some 15, .bin .lss (.t 12) (.t 14), none, []⟩]
def r9_7 : List VOper := [
  ⟨some 18, .move (.t 0), none, []⟩,
  ⟨some 19, .move (.t 5), none, []⟩,
  ⟨some 20, .indexAddr 3 none (.t 18) (.t 19), none, []⟩,
  ⟨some 21, .load true 3 (.t 20), none, []⟩,
  ⟨some 22, .move (.t 1), none, []⟩,
  ⟨some 23, .call true (.c (.fn 1 [])) [.t 21, .t 22], none, []⟩,
  ⟨some 1, .move (.t 23), none, []⟩]
def r9_8 : List VOper := [
  ⟨some 24, .move (.t 1), none, []⟩,
  ⟨some 25, .bin .lss (.t 24) (.c (.d (.int .i64 0))), none, []⟩]
def r9_9 : List VOper := [
  ⟨some 4, .move (.c (.d (.int .i64 (-1)))), none, []⟩]
def r9_6 : List VOper := [
  ⟨some 16, .move (.t 5), none, []⟩,
  ⟨some 17, .bin .add (.t 16) (.c (.d (.int .i64 1))), none, []⟩,
  ⟨some 5, .move (.t 17), none, []⟩]
def b9_0 : VCode := (.seq (.seq (.region false 0 [0, 1, 5, 15] r9_5) (.cond (.t 15) .skip (.exit 0))) (.seq (.block 1 (.seq (.region false 0 [0, 1, 5] r9_7) (.seq (.region false 0 [0, 1, 5, 25] r9_8) (.cond (.t 25) (.seq (.region false 0 [4] r9_9) .ret) .skip)))) (.region false 0 [0, 1, 5] r9_6)))
def r9_10 : List VOper := [
  ⟨some 26, .move (.t 1), none, []⟩,
  ⟨some 4, .move (.t 26), none, []⟩]
def v9 : VFn := ⟨2, [.tmp 4], (.seq (.region false 0 [0, 1] r9_0) (.seq (.region false 0 [0, 1] r9_1) (.seq (.seq (.region false 0 [0, 1, 11] r9_2) (.cond (.t 11) (.seq (.region false 0 [4] r9_3) .ret) .skip)) (.seq (.seq (.region false 0 [0, 1, 5] r9_4) (.block 0 (.loop [0, 1, 5] b9_0))) (.seq (.region false 0 [4] r9_10) .ret)))))⟩
/-! loop.example/g00461/laws.szSymS -/
def r11_0 : List VOper := [
  ⟨some 4, .move (.c (.d (.int .i64 0))), none, []⟩]
def r11_1 : List VOper := [
  ⟨some 6, .move (.t 1), none, []⟩,
  ⟨some 7, .move (.t 0), none, []⟩,
  ⟨some 8, .len false (.t 7), none, []⟩,
  ⟨some 9, .bin .sub (.t 6) (.t 8), none, []⟩,
  ⟨some 1, .move (.t 9), none, []⟩]
def r11_2 : List VOper := [
  ⟨some 10, .move (.t 1), none, []⟩,
  ⟨some 11, .bin .lss (.t 10) (.c (.d (.int .i64 0))), none, []⟩]
def r11_3 : List VOper := [
  ⟨some 4, .move (.c (.d (.int .i64 (-1)))), none, []⟩]
def r11_4 : List VOper := [
  ⟨some 5, .move (.c (.d (.int .i64 0))), none, []⟩]
def r11_5 : List VOper := [
  ⟨some 12, .move (.t 5), none, []⟩,
  ⟨some 13, .move (.t 0), none, []⟩,
  ⟨some 14, .len false (.t 13), none, []⟩,
  ⟨some 15, .bin .lss (.t 12) (.t 14), none, []⟩]
def r11_7 : List VOper := [
  ⟨some 18, .move (.t 0), none, []⟩,
  ⟨some 19, .move (.t 5), none, []⟩,
  ⟨some 20, .indexAddr 3 none (.t 18) (.t 19), none, []⟩,
  ⟨some 21, .load true 3 (.t 20), none, []⟩,
  ⟨some 22, .move (.t 1), none, []⟩,
  ⟨some 23, .call true (.c (.fn 17 [])) [.t 21, .t 22], none, []⟩,
  ⟨some 1, .move (.t 23), none, []⟩]
def r11_8 : List VOper := [
  ⟨some 24, .move (.t 1), none, []⟩,
  ⟨some 25, .bin .lss (.t 24) (.c (.d (.int .i64 0))), none, []⟩]
def r11_9 : List VOper := [
  ⟨some 4, .move (.c (.d (.int .i64 (-1)))), none, []⟩]
def r11_6 : List VOper := [
  ⟨some 16, .move (.t 5), none, []⟩,
  ⟨some 17, .bin .add (.t 16) (.c (.d (.int .i64 1))), none, []⟩,
  ⟨some 5, .move (.t 17), none, []⟩]
def b11_0 : VCode := (.seq (.seq (.region false 0 [0, 1, 5, 15] r11_5) (.cond (.t 15) .skip (.exit 0))) (.seq (.block 1 (.seq (.region false 0 [0, 1, 5] r11_7) (.seq (.region false 0 [0, 1, 5, 25] r11_8) (.cond (.t 25) (.seq (.region false 0 [4] r11_9) .ret) .skip)))) (.region false 0 [0, 1, 5] r11_6)))
def r11_10 : List VOper := [
  ⟨some 26, .move (.t 1), none, []⟩,
  ⟨some 4, .move (.t 26), none, []⟩]
def v11 : VFn := ⟨2, [.tmp 4], (.seq (.region false 0 [0, 1] r11_0) (.seq (.region false 0 [0, 1] r11_1) (.seq (.seq (.region false 0 [0, 1, 11] r11_2) (.cond (.t 11) (.seq (.region false 0 [4] r11_3) .ret) .skip)) (.seq (.seq (.region false 0 [0, 1, 5] r11_4) (.block 0 (.loop [0, 1, 5] b11_0))) (.seq (.region false 0 [4] r11_10) .ret)))))⟩
/-! loop.example/g00461/laws.toSymS -/
def r12_0 : List VOper := [
  ⟨some 2, .move (.c (.d (.sl .nil []))), none, []⟩]
def r12_1 : List VOper := [
  ⟨some 5, .move (.t 0), none, []⟩,
  ⟨some 6, .len false (.t 5), none, []⟩,
  ⟨some 7, .makeSlice 0 3 32 (.agg [.str ⟨#[]⟩, .int .i64 0, .bool false]) (.t 6), none, []⟩,
  ⟨some 3, .move (.t 7), none, []⟩]
def r12_2 : List VOper := [
  ⟨some 4, .move (.c (.d (.int .i64 0))), none, []⟩]
def r12_3 : List VOper := [
  ⟨some 8, .move (.t 4), none, []⟩,
  ⟨some 9, .move (.t 0), none, []⟩,
  ⟨some 10, .len false (.t 9), none, []⟩,
  ⟨some 11, .bin .lss (.t 8) (.t 10), none, []⟩]
def r12_5 : List VOper := [
  ⟨some 14, .move (.t 3), none, []⟩,
  ⟨some 15, .move (.t 4), none, []⟩,
  ⟨some 16, .move (.t 0), none, []⟩,
  ⟨some 17, .move (.t 4), none, []⟩,
  ⟨some 18, .indexAddr 3 none (.t 16) (.t 17), none, []⟩,
  ⟨some 19, .load true 3 (.t 18), none, []⟩,
  ⟨some 20, .call true (.c (.fn 16 [])) [.t 19], none, []⟩,
  ⟨some 21, .indexAddr 3 none (.t 14) (.t 15), none, []⟩,
  ⟨none, .store false 3 (.t 21) (.t 20), none, []⟩]
def r12_4 : List VOper := [
  ⟨some 12, .move (.t 4), none, []⟩,
  ⟨some 13, .bin .add (.t 12) (.c (.d (.int .i64 1))), none, []⟩,
  ⟨some 4, .move (.t 13), none, []⟩]
def b12_0 : VCode := (.seq (.seq (.region false 0 [0, 3, 4, 11] r12_3) (.cond (.t 11) .skip (.exit 0))) (.seq (.block 1 (.region false 0 [0, 3, 4] r12_5)) (.region false 0 [0, 3, 4] r12_4)))
def r12_6 : List VOper := [
  ⟨some 22, .move (.t 3), none, []⟩,
  ⟨some 2, .move (.t 22), none, []⟩]
def v12 : VFn := ⟨1, [.tmp 2], (.seq (.region false 0 [0] r12_0) (.seq (.region false 1 [0, 3] r12_1) (.seq (.seq (.region false 0 [0, 3, 4] r12_2) (.block 0 (.loop [0, 3, 4] b12_0))) (.seq (.region false 0 [2] r12_6) .ret))))⟩
/-! loop.example/g00461/laws.eqSymS -/
def r15_0 : List VOper := [
  ⟨some 4, .move (.c (.d (.bool false))), none, []⟩]
def r15_1 : List VOper := [
  ⟨some 6, .move (.t 0), none, []⟩,
  ⟨some 7, .len false (.t 6), none, []⟩,
  ⟨some 8, .move (.t 1), none, []⟩,
  ⟨some 9, .len false (.t 8), none, []⟩,
  ⟨some 10, .bin .neq (.t 7) (.t 9), none, []⟩]
def r15_2 : List VOper := [
  ⟨some 4, .move (.c (.d (.bool false))), none, []⟩]
def r15_3 : List VOper := [
  ⟨some 5, .move (.c (.d (.int .i64 0))), none, []⟩]
def r15_4 : List VOper := [
  ⟨some 11, .move (.t 5), none, []⟩,
  ⟨some 12, .move (.t 0), none, []⟩,
  ⟨some 13, .len false (.t 12), none, []⟩,
  ⟨some 14, .bin .lss (.t 11) (.t 13), none, []⟩]
def r15_6 : List VOper := [
  ⟨some 17, .move (.t 0), none, []⟩,
  ⟨some 18, .move (.t 5), none, []⟩,
  ⟨some 19, .indexAddr 3 none (.t 17) (.t 18), none, [0, 1]⟩,
  ⟨some 20, .load true 3 (.t 19), none, [2]⟩,
  ⟨some 21, .move (.t 1), none, []⟩,
  ⟨some 22, .move (.t 5), none, []⟩,
  ⟨some 23, .indexAddr 3 none (.t 21) (.t 22), none, [4, 5]⟩,
  ⟨some 24, .load true 3 (.t 23), none, [6]⟩,
  ⟨some 25, .call true (.c (.fn 20 [])) [.t 20, .t 24], none, [3, 7]⟩,
  ⟨some 26, .not (.t 25), none, [8]⟩]
def r15_7 : List VOper := [
  ⟨some 4, .move (.c (.d (.bool false))), none, []⟩]
def r15_5 : List VOper := [
  ⟨some 15, .move (.t 5), none, []⟩,
  ⟨some 16, .bin .add (.t 15) (.c (.d (.int .i64 1))), none, []⟩,
  ⟨some 5, .move (.t 16), none, []⟩]
def b15_0 : VCode := (.seq (.seq (.region false 0 [0, 1, 5, 14] r15_4) (.cond (.t 14) .skip (.exit 0))) (.seq (.block 1 (.seq (.region true 0 [0, 1, 5, 26] r15_6) (.cond (.t 26) (.seq (.region false 0 [4] r15_7) .ret) .skip))) (.region false 0 [0, 1, 5] r15_5)))
def r15_8 : List VOper := [
  ⟨some 4, .move (.c (.d (.bool true))), none, []⟩]
def v15 : VFn := ⟨2, [.tmp 4], (.seq (.region false 0 [0, 1] r15_0) (.seq (.seq (.region false 0 [0, 1, 10] r15_1) (.cond (.t 10) (.seq (.region false 0 [4] r15_2) .ret) .skip)) (.seq (.seq (.region false 0 [0, 1, 5] r15_3) (.block 0 (.loop [0, 1, 5] b15_0))) (.seq (.region false 0 [4] r15_8) .ret))))⟩
/-! loop.example/g00461/laws.toSym -/
def r16_0 : List VOper := [
  ⟨some 1, .box 0 (.t 0), none, []⟩,
  ⟨some 2, .alloc 1 [.str ⟨#[]⟩, .int .i64 0, .bool false], none, []⟩]
def r16_1 : List VOper := [
  ⟨some 3, .alloc 0 [.str ⟨#[]⟩, .int .i64 0, .bool false], none, []⟩]
def r16_2 : List VOper := [
  ⟨some 4, .fieldAddr 0 (.t 1), none, []⟩,
  ⟨some 5, .load false 1 (.t 4), none, []⟩,
  ⟨some 6, .fieldAddr 0 (.t 3), none, []⟩,
  ⟨none, .store false 1 (.t 6) (.t 5), none, []⟩]
def r16_3 : List VOper := [
  ⟨some 7, .fieldAddr 1 (.t 1), none, []⟩,
  ⟨some 8, .load false 1 (.t 7), none, []⟩,
  ⟨some 9, .fieldAddr 1 (.t 3), none, []⟩,
  ⟨none, .store false 1 (.t 9) (.t 8), none, []⟩]
def r16_4 : List VOper := [
  ⟨some 10, .fieldAddr 2 (.t 1), none, []⟩,
  ⟨some 11, .load false 1 (.t 10), none, []⟩,
  ⟨some 12, .fieldAddr 2 (.t 3), none, []⟩,
  ⟨none, .store false 1 (.t 12) (.t 11), none, []⟩]
def r16_5 : List VOper := [
  ⟨some 13, .load true 3 (.t 3), none, []⟩,
  ⟨none, .store false 3 (.t 2) (.t 13), none, []⟩]
def v16 : VFn := ⟨1, [.cell 2 true 3], (.seq (.region false 2 [1, 2] r16_0) (.seq (.region false 1 [1, 2, 3] r16_1) (.seq (.region false 0 [1, 2, 3] r16_2) (.seq (.region false 0 [1, 2, 3] r16_3) (.seq (.region false 0 [2, 3] r16_4) (.seq (.region false 0 [2] r16_5) .ret))))))⟩
/-! loop.example/g00461/laws.szSym -/
def r17_0 : List VOper := [
  ⟨some 2, .box 0 (.t 0), none, []⟩,
  ⟨some 4, .move (.c (.d (.int .i64 0))), none, []⟩]
def r17_1 : List VOper := [
  ⟨some 5, .move (.t 1), none, []⟩,
  ⟨some 6, .fieldAddr 0 (.t 2), none, []⟩,
  ⟨some 7, .load false 1 (.t 6), none, []⟩,
  ⟨some 8, .len true (.t 7), none, []⟩,
  ⟨some 9, .bin .sub (.t 5) (.t 8), none, []⟩,
  ⟨some 1, .move (.t 9), none, []⟩]
def r17_2 : List VOper := [
  ⟨some 10, .move (.t 1), none, []⟩,
  ⟨some 11, .bin .lss (.t 10) (.c (.d (.int .i64 0))), none, []⟩]
def r17_3 : List VOper := [
  ⟨some 4, .move (.c (.d (.int .i64 (-1)))), none, []⟩]
def r17_4 : List VOper := [
  ⟨some 12, .move (.t 1), none, []⟩,
  ⟨some 4, .move (.t 12), none, []⟩]
def v17 : VFn := ⟨2, [.tmp 4], (.seq (.region false 1 [1, 2] r17_0) (.seq (.region false 0 [1] r17_1) (.seq (.seq (.region false 0 [1, 11] r17_2) (.cond (.t 11) (.seq (.region false 0 [4] r17_3) .ret) .skip)) (.seq (.region false 0 [4] r17_4) .ret))))⟩
/-! loop.example/g00461/laws.eqSym -/
def r20_0 : List VOper := [
  ⟨some 2, .box 0 (.t 0), none, []⟩,
  ⟨some 3, .box 1 (.t 1), none, []⟩,
  ⟨some 4, .move (.c (.d (.bool false))), none, []⟩]
def r20_1 : List VOper := [
  ⟨some 5, .fieldAddr 0 (.t 2), none, []⟩,
  ⟨some 6, .load false 1 (.t 5), none, []⟩,
  ⟨some 7, .fieldAddr 0 (.t 3), none, []⟩,
  ⟨some 8, .load false 1 (.t 7), none, []⟩,
  ⟨some 9, .bin .neq (.t 6) (.t 8), none, []⟩]
def r20_2 : List VOper := [
  ⟨some 4, .move (.c (.d (.bool false))), none, []⟩]
def r20_3 : List VOper := [
  ⟨some 10, .fieldAddr 1 (.t 2), none, []⟩,
  ⟨some 11, .load false 1 (.t 10), none, []⟩,
  ⟨some 12, .fieldAddr 1 (.t 3), none, []⟩,
  ⟨some 13, .load false 1 (.t 12), none, []⟩,
  ⟨some 14, .bin .neq (.t 11) (.t 13), none, []⟩]
def r20_4 : List VOper := [
  ⟨some 4, .move (.c (.d (.bool false))), none, []⟩]
def r20_5 : List VOper := [
  ⟨some 15, .fieldAddr 2 (.t 2), none, []⟩,
  ⟨some 16, .load false 1 (.t 15), none, []⟩,
  ⟨some 17, .fieldAddr 2 (.t 3), none, []⟩,
  ⟨some 18, .load false 1 (.t 17), none, []⟩,
  ⟨some 19, .eqB true (.t 16) (.t 18), none, []⟩]
def r20_6 : List VOper := [
  ⟨some 4, .move (.c (.d (.bool false))), none, []⟩]
def r20_7 : List VOper := [
  ⟨some 4, .move (.c (.d (.bool true))), none, []⟩]
def v20 : VFn := ⟨2, [.tmp 4], (.seq (.region false 2 [2, 3] r20_0) (.seq (.seq (.region false 0 [2, 3, 9] r20_1) (.cond (.t 9) (.seq (.region false 0 [4] r20_2) .ret) .skip)) (.seq (.seq (.region false 0 [2, 3, 14] r20_3) (.cond (.t 14) (.seq (.region false 0 [4] r20_4) .ret) .skip)) (.seq (.seq (.region false 0 [19] r20_5) (.cond (.t 19) (.seq (.region false 0 [4] r20_6) .ret) .skip)) (.seq (.region false 0 [4] r20_7) .ret)))))⟩
/-! loop.example/g00461/impl.isSym -/
def r29_0 : List VOper := [
  ⟨some 4, .move (.c (.d (.bool false))), none, []⟩]
def r29_1 : List VOper := [
  ⟨some 5, .move (.t 1), none, []⟩,
  ⟨some 6, .move (.t 0), none, []⟩,
  ⟨some 7, .len false (.t 6), none, []⟩,
  ⟨some 8, .bin .sub (.t 7) (.c (.d (.int .i64 1))), none, []⟩,
  ⟨some 9, .call true (.c (.fn 30 [])) [.t 5, .c (.d (.int .i64 0)), .t 8], none, []⟩,
  ⟨some 4, .move (.t 9), none, []⟩]
def v29 : VFn := ⟨2, [.tmp 4], (.seq (.region false 0 [0, 1] r29_0) (.seq (.region false 0 [4] r29_1) .ret))⟩
/-! loop.example/g00461/impl.from -/
def r30_0 : List VOper := [
  ⟨some 6, .move (.c (.d (.bool false))), none, []⟩]
def r30_1 : List VOper := [
  ⟨some 7, .move (.t 0), none, []⟩,
  ⟨some 8, .move (.t 1), none, []⟩,
  ⟨some 9, .bin .geq (.t 7) (.t 8), none, []⟩,
  ⟨some 10, .move (.t 9), none, []⟩,
  ⟨some 11, .move (.t 0), some (10, true), []⟩,
  ⟨some 12, .move (.t 2), some (10, true), []⟩,
  ⟨some 13, .bin .leq (.t 11) (.t 12), some (10, true), []⟩,
  ⟨some 14, .pick (.t 10) (.t 13) (.c (.d (.bool false))), none, []⟩,
  ⟨some 6, .move (.t 14), none, []⟩]
def v30 : VFn := ⟨3, [.tmp 6], (.seq (.region false 0 [0, 1, 2] r30_0) (.seq (.region false 0 [6] r30_1) .ret))⟩
/-! loop.example/g00461/spec.l1In -/
def r31_0 : List VOper := [
  ⟨some 6, .move (.c (.d (.bool false))), none, []⟩]
def r31_1 : List VOper := [
  ⟨some 7, .move (.t 0), none, []⟩,
  ⟨some 8, .move (.t 1), none, []⟩,
  ⟨some 9, .bin .geq (.t 7) (.t 8), none, []⟩,
  ⟨some 10, .move (.t 9), none, []⟩,
  ⟨some 11, .move (.t 0), some (10, true), []⟩,
  ⟨some 12, .move (.t 2), some (10, true), []⟩,
  ⟨some 13, .bin .leq (.t 11) (.t 12), some (10, true), []⟩,
  ⟨some 14, .pick (.t 10) (.t 13) (.c (.d (.bool false))), none, []⟩,
  ⟨some 6, .move (.t 14), none, []⟩]
def v31 : VFn := ⟨3, [.tmp 6], (.seq (.region false 0 [0, 1, 2] r31_0) (.seq (.region false 0 [6] r31_1) .ret))⟩
/-! loop.example/g00461/spec.Blind -/
def r33_0 : List VOper := [
  ⟨some 4, .move (.c (.d (.bool false))), none, []⟩]
def r33_1 : List VOper := [
  ⟨some 5, .move (.t 1), none, []⟩,
  ⟨some 6, .move (.t 0), none, []⟩,
  ⟨some 7, .len false (.t 6), none, []⟩,
  ⟨some 8, .bin .sub (.t 7) (.c (.d (.int .i64 1))), none, []⟩,
  ⟨some 9, .call true (.c (.fn 31 [])) [.t 5, .c (.d (.int .i64 0)), .t 8], none, []⟩,
  ⟨some 10, .move (.t 9), none, []⟩,
  ⟨some 11, .move (.t 0), some (10, true), []⟩,
  ⟨some 12, .move (.t 1), some (10, true), []⟩,
  ⟨some 13, .indexAddr 3 none (.t 11) (.t 12), some (10, true), []⟩,
  ⟨some 14, .fieldAddr 2 (.t 13), some (10, true), []⟩,
  ⟨some 15, .load false 1 (.t 14), some (10, true), []⟩,
  ⟨some 16, .pick (.t 10) (.t 15) (.c (.d (.bool false))), none, []⟩,
  ⟨some 4, .move (.t 16), none, []⟩]
def v33 : VFn := ⟨2, [.tmp 4], (.seq (.region false 0 [0, 1] r33_0) (.seq (.region false 0 [4] r33_1) .ret))⟩
/-! loop.example/g00461/impl.Blind -/
def r34_0 : List VOper := [
  ⟨some 4, .move (.c (.d (.bool false))), none, []⟩]
def r34_1 : List VOper := [
  ⟨some 5, .move (.t 0), none, []⟩,
  ⟨some 6, .move (.t 1), none, []⟩,
  ⟨some 7, .call true (.c (.fn 29 [])) [.t 5, .t 6], none, []⟩,
  ⟨some 8, .move (.t 7), none, []⟩,
  ⟨some 9, .move (.t 0), some (8, true), []⟩,
  ⟨some 10, .move (.t 1), some (8, true), []⟩,
  ⟨some 11, .indexAddr 3 none (.t 9) (.t 10), some (8, true), []⟩,
  ⟨some 12, .fieldAddr 2 (.t 11), some (8, true), []⟩,
  ⟨some 13, .load false 1 (.t 12), some (8, true), []⟩,
  ⟨some 14, .pick (.t 8) (.t 13) (.c (.d (.bool false))), none, []⟩,
  ⟨some 4, .move (.t 14), none, []⟩]
def v34 : VFn := ⟨2, [.tmp 4], (.seq (.region false 0 [0, 1] r34_0) (.seq (.region false 0 [4] r34_1) .ret))⟩
/-! loop.example/g00461/laws.szBindS -/
def r65_0 : List VOper := [
  ⟨some 4, .move (.c (.d (.int .i64 0))), none, []⟩]
def r65_1 : List VOper := [
  ⟨some 6, .move (.t 1), none, []⟩,
  ⟨some 7, .move (.t 0), none, []⟩,
  ⟨some 8, .len false (.t 7), none, []⟩,
  ⟨some 9, .bin .sub (.t 6) (.t 8), none, []⟩,
  ⟨some 1, .move (.t 9), none, []⟩]
def r65_2 : List VOper := [
  ⟨some 10, .move (.t 1), none, []⟩,
  ⟨some 11, .bin .lss (.t 10) (.c (.d (.int .i64 0))), none, []⟩]
def r65_3 : List VOper := [
  ⟨some 4, .move (.c (.d (.int .i64 (-1)))), none, []⟩]
def r65_4 : List VOper := [
  ⟨some 5, .move (.c (.d (.int .i64 0))), none, []⟩]
def r65_5 : List VOper := [
  ⟨some 12, .move (.t 5), none, []⟩,
  ⟨some 13, .move (.t 0), none, []⟩,
  ⟨some 14, .len false (.t 13), none, []⟩,
  ⟨some 15, .bin .lss (.t 12) (.t 14), none, []⟩]
def r65_7 : List VOper := [
  ⟨some 18, .move (.t 0), none, []⟩,
  ⟨some 19, .move (.t 5), none, []⟩,
  ⟨some 20, .indexAddr 4 none (.t 18) (.t 19), none, []⟩,
  ⟨some 21, .load true 4 (.t 20), none, []⟩,
  ⟨some 22, .move (.t 1), none, []⟩,
  ⟨some 23, .call true (.c (.fn 88 [])) [.t 21, .t 22], none, []⟩,
  ⟨some 1, .move (.t 23), none, []⟩]
def r65_8 : List VOper := [
  ⟨some 24, .move (.t 1), none, []⟩,
  ⟨some 25, .bin .lss (.t 24) (.c (.d (.int .i64 0))), none, []⟩]
def r65_9 : List VOper := [
  ⟨some 4, .move (.c (.d (.int .i64 (-1)))), none, []⟩]
def r65_6 : List VOper := [
  ⟨some 16, .move (.t 5), none, []⟩,
  ⟨some 17, .bin .add (.t 16) (.c (.d (.int .i64 1))), none, []⟩,
  ⟨some 5, .move (.t 17), none, []⟩]
def b65_0 : VCode := (.seq (.seq (.region false 0 [0, 1, 5, 15] r65_5) (.cond (.t 15) .skip (.exit 0))) (.seq (.block 1 (.seq (.region false 0 [0, 1, 5] r65_7) (.seq (.region false 0 [0, 1, 5, 25] r65_8) (.cond (.t 25) (.seq (.region false 0 [4] r65_9) .ret) .skip)))) (.region false 0 [0, 1, 5] r65_6)))
def r65_10 : List VOper := [
  ⟨some 26, .move (.t 1), none, []⟩,
  ⟨some 4, .move (.t 26), none, []⟩]
def v65 : VFn := ⟨2, [.tmp 4], (.seq (.region false 0 [0, 1] r65_0) (.seq (.region false 0 [0, 1] r65_1) (.seq (.seq (.region false 0 [0, 1, 11] r65_2) (.cond (.t 11) (.seq (.region false 0 [4] r65_3) .ret) .skip)) (.seq (.seq (.region false 0 [0, 1, 5] r65_4) (.block 0 (.loop [0, 1, 5] b65_0))) (.seq (.region false 0 [4] r65_10) .ret)))))⟩
/-! loop.example/g00461/laws.toBindS -/
def r66_0 : List VOper := [
  ⟨some 2, .move (.c (.d (.sl .nil []))), none, []⟩]
def r66_1 : List VOper := [
  ⟨some 5, .move (.t 0), none, []⟩,
  ⟨some 6, .len false (.t 5), none, []⟩,
  ⟨some 7, .makeSlice 0 4 48 (.agg [.int .i64 0, .int .i64 0, .int .i64 0, .sl .nil []]) (.t 6), none, []⟩,
  ⟨some 3, .move (.t 7), none, []⟩]
def r66_2 : List VOper := [
  ⟨some 4, .move (.c (.d (.int .i64 0))), none, []⟩]
def r66_3 : List VOper := [
  ⟨some 8, .move (.t 4), none, []⟩,
  ⟨some 9, .move (.t 0), none, []⟩,
  ⟨some 10, .len false (.t 9), none, []⟩,
  ⟨some 11, .bin .lss (.t 8) (.t 10), none, []⟩]
def r66_5 : List VOper := [
  ⟨some 14, .move (.t 3), none, []⟩,
  ⟨some 15, .move (.t 4), none, []⟩,
  ⟨some 16, .move (.t 0), none, []⟩,
  ⟨some 17, .move (.t 4), none, []⟩,
  ⟨some 18, .indexAddr 4 none (.t 16) (.t 17), none, []⟩,
  ⟨some 19, .load true 4 (.t 18), none, []⟩,
  ⟨some 20, .call true (.c (.fn 87 [])) [.t 19], none, []⟩,
  ⟨some 21, .indexAddr 4 none (.t 14) (.t 15), none, []⟩,
  ⟨none, .store false 4 (.t 21) (.t 20), none, []⟩]
def r66_4 : List VOper := [
  ⟨some 12, .move (.t 4), none, []⟩,
  ⟨some 13, .bin .add (.t 12) (.c (.d (.int .i64 1))), none, []⟩,
  ⟨some 4, .move (.t 13), none, []⟩]
def b66_0 : VCode := (.seq (.seq (.region false 0 [0, 3, 4, 11] r66_3) (.cond (.t 11) .skip (.exit 0))) (.seq (.block 1 (.region false 0 [0, 3, 4] r66_5)) (.region false 0 [0, 3, 4] r66_4)))
def r66_6 : List VOper := [
  ⟨some 22, .move (.t 3), none, []⟩,
  ⟨some 2, .move (.t 22), none, []⟩]
def v66 : VFn := ⟨1, [.tmp 2], (.seq (.region false 0 [0] r66_0) (.seq (.region false 1 [0, 3] r66_1) (.seq (.seq (.region false 0 [0, 3, 4] r66_2) (.block 0 (.loop [0, 3, 4] b66_0))) (.seq (.region false 0 [2] r66_6) .ret))))⟩
/-! loop.example/g00461/laws.eqBindS -/
def r69_0 : List VOper := [
  ⟨some 4, .move (.c (.d (.bool false))), none, []⟩]
def r69_1 : List VOper := [
  ⟨some 6, .move (.t 0), none, []⟩,
  ⟨some 7, .len false (.t 6), none, []⟩,
  ⟨some 8, .move (.t 1), none, []⟩,
  ⟨some 9, .len false (.t 8), none, []⟩,
  ⟨some 10, .bin .neq (.t 7) (.t 9), none, []⟩]
def r69_2 : List VOper := [
  ⟨some 4, .move (.c (.d (.bool false))), none, []⟩]
def r69_3 : List VOper := [
  ⟨some 5, .move (.c (.d (.int .i64 0))), none, []⟩]
def r69_4 : List VOper := [
  ⟨some 11, .move (.t 5), none, []⟩,
  ⟨some 12, .move (.t 0), none, []⟩,
  ⟨some 13, .len false (.t 12), none, []⟩,
  ⟨some 14, .bin .lss (.t 11) (.t 13), none, []⟩]
def r69_6 : List VOper := [
  ⟨some 17, .move (.t 0), none, []⟩,
  ⟨some 18, .move (.t 5), none, []⟩,
  ⟨some 19, .indexAddr 4 none (.t 17) (.t 18), none, [0, 1]⟩,
  ⟨some 20, .load true 4 (.t 19), none, [2]⟩,
  ⟨some 21, .move (.t 1), none, []⟩,
  ⟨some 22, .move (.t 5), none, []⟩,
  ⟨some 23, .indexAddr 4 none (.t 21) (.t 22), none, [4, 5]⟩,
  ⟨some 24, .load true 4 (.t 23), none, [6]⟩,
  ⟨some 25, .call true (.c (.fn 86 [])) [.t 20, .t 24], none, [3, 7]⟩,
  ⟨some 26, .not (.t 25), none, [8]⟩]
def r69_7 : List VOper := [
  ⟨some 4, .move (.c (.d (.bool false))), none, []⟩]
def r69_5 : List VOper := [
  ⟨some 15, .move (.t 5), none, []⟩,
  ⟨some 16, .bin .add (.t 15) (.c (.d (.int .i64 1))), none, []⟩,
  ⟨some 5, .move (.t 16), none, []⟩]
def b69_0 : VCode := (.seq (.seq (.region false 0 [0, 1, 5, 14] r69_4) (.cond (.t 14) .skip (.exit 0))) (.seq (.block 1 (.seq (.region true 0 [0, 1, 5, 26] r69_6) (.cond (.t 26) (.seq (.region false 0 [4] r69_7) .ret) .skip))) (.region false 0 [0, 1, 5] r69_5)))
def r69_8 : List VOper := [
  ⟨some 4, .move (.c (.d (.bool true))), none, []⟩]
def v69 : VFn := ⟨2, [.tmp 4], (.seq (.region false 0 [0, 1] r69_0) (.seq (.seq (.region false 0 [0, 1, 10] r69_1) (.cond (.t 10) (.seq (.region false 0 [4] r69_2) .ret) .skip)) (.seq (.seq (.region false 0 [0, 1, 5] r69_3) (.block 0 (.loop [0, 1, 5] b69_0))) (.seq (.region false 0 [4] r69_8) .ret))))⟩
/-! loop.example/g00461/impl.isVar -/
def r75_0 : List VOper := [
  ⟨some 1, .box 0 (.t 0), none, []⟩,
  ⟨some 2, .move (.c (.d (.bool false))), none, []⟩]
def r75_1 : List VOper := [
  ⟨some 3, .fieldAddr 0 (.t 1), none, []⟩,
  ⟨some 4, .load false 1 (.t 3), none, []⟩,
  ⟨some 5, .bin .eql (.t 4) (.c (.d (.int .i64 (-1)))), none, []⟩,
  ⟨some 2, .move (.t 5), none, []⟩]
def v75 : VFn := ⟨1, [.tmp 2], (.seq (.region false 1 [1] r75_0) (.seq (.region false 0 [2] r75_1) .ret))⟩
/-! slices.IndexFunc[[]loop.example/g00461/impl.Bind,loop.example/g00461/impl.Bind] -/
def r76_0 : List VOper := [
  ⟨some 4, .move (.c (.d (.int .i64 0))), none, []⟩]
def r76_1 : List VOper := [
  ⟨some 6, .move (.t 0), none, []⟩,
  ⟨some 7, .len false (.t 6), none, []⟩,
  ⟨some 8, .move (.c (.d (.int .i64 0))), none, []⟩]
def r76_2 : List VOper := [
  ⟨some 9, .bin .lss (.t 8) (.t 7), none, []⟩]
def r76_3 : List VOper := [
  ⟨some 10, .move (.t 8), none, []⟩,
  ⟨some 5, .move (.t 10), none, []⟩]
def r76_4 : List VOper := [
  ⟨some 11, .move (.t 1), none, []⟩,
  ⟨some 12, .move (.t 0), none, []⟩,
  ⟨some 13, .move (.t 5), none, []⟩,
  ⟨some 14, .indexAddr 4 none (.t 12) (.t 13), none, []⟩,
  ⟨some 15, .load true 4 (.t 14), none, []⟩,
  ⟨some 16, .call false (.t 11) [.t 15], none, []⟩]
def r76_5 : List VOper := [
  ⟨some 17, .move (.t 5), none, []⟩,
  ⟨some 4, .move (.t 17), none, []⟩]
def r76_6 : List VOper := [
  ⟨some 18, .bin .add (.t 8) (.c (.d (.int .i64 1))), none, []⟩,
  ⟨some 8, .move (.t 18), none, []⟩]
def b76_0 : VCode := (.seq (.region false 0 [0, 1, 7, 8, 9] r76_2) (.seq (.cond (.t 9) .skip (.exit 0)) (.seq (.block 1 (.seq (.region false 0 [0, 1, 5, 7, 8] r76_3) (.seq (.region false 0 [0, 1, 5, 7, 8, 16] r76_4) (.cond (.t 16) (.seq (.region false 0 [4] r76_5) .ret) .skip)))) (.region false 0 [0, 1, 7, 8] r76_6))))
def r76_7 : List VOper := [
  ⟨some 4, .move (.c (.d (.int .i64 (-1)))), none, []⟩]
def v76 : VFn := ⟨2, [.tmp 4], (.seq (.region false 0 [0, 1] r76_0) (.seq (.seq (.region false 0 [0, 1, 7, 8] r76_1) (.block 0 (.loop [0, 1, 7, 8] b76_0))) (.seq (.region false 0 [4] r76_7) .ret)))⟩
/-! loop.example/g00461/spec.Before -/
def r84_0 : List VOper := [
  ⟨some 2, .box 0 (.t 0), none, []⟩,
  ⟨some 3, .box 1 (.t 1), none, []⟩,
  ⟨some 4, .move (.c (.d (.bool false))), none, []⟩]
def r84_1 : List VOper := [
  ⟨some 6, .fieldAddr 0 (.t 2), none, []⟩,
  ⟨some 7, .load false 1 (.t 6), none, []⟩,
  ⟨some 8, .fieldAddr 0 (.t 3), none, []⟩,
  ⟨some 9, .load false 1 (.t 8), none, []⟩,
  ⟨some 10, .bin .neq (.t 7) (.t 9), none, []⟩]
def r84_2 : List VOper := [
  ⟨some 11, .fieldAddr 0 (.t 2), none, []⟩,
  ⟨some 12, .load false 1 (.t 11), none, []⟩,
  ⟨some 13, .fieldAddr 0 (.t 3), none, []⟩,
  ⟨some 14, .load false 1 (.t 13), none, []⟩,
  ⟨some 15, .bin .lss (.t 12) (.t 14), none, []⟩,
  ⟨some 4, .move (.t 15), none, []⟩]
def r84_3 : List VOper := [
  ⟨some 16, .fieldAddr 1 (.t 2), none, []⟩,
  ⟨some 17, .load false 1 (.t 16), none, []⟩,
  ⟨some 18, .fieldAddr 1 (.t 3), none, []⟩,
  ⟨some 19, .load false 1 (.t 18), none, []⟩,
  ⟨some 20, .bin .neq (.t 17) (.t 19), none, []⟩]
def r84_4 : List VOper := [
  ⟨some 21, .fieldAddr 1 (.t 2), none, []⟩,
  ⟨some 22, .load false 1 (.t 21), none, []⟩,
  ⟨some 23, .fieldAddr 1 (.t 3), none, []⟩,
  ⟨some 24, .load false 1 (.t 23), none, []⟩,
  ⟨some 25, .bin .lss (.t 22) (.t 24), none, []⟩,
  ⟨some 4, .move (.t 25), none, []⟩]
def r84_5 : List VOper := [
  ⟨some 26, .fieldAddr 2 (.t 2), none, []⟩,
  ⟨some 27, .load false 1 (.t 26), none, []⟩,
  ⟨some 28, .len false (.t 27), none, []⟩,
  ⟨some 29, .fieldAddr 2 (.t 3), none, []⟩,
  ⟨some 30, .load false 1 (.t 29), none, []⟩,
  ⟨some 31, .len false (.t 30), none, []⟩,
  ⟨some 32, .bin .neq (.t 28) (.t 31), none, []⟩]
def r84_6 : List VOper := [
  ⟨some 33, .fieldAddr 2 (.t 2), none, []⟩,
  ⟨some 34, .load false 1 (.t 33), none, []⟩,
  ⟨some 35, .len false (.t 34), none, []⟩,
  ⟨some 36, .fieldAddr 2 (.t 3), none, []⟩,
  ⟨some 37, .load false 1 (.t 36), none, []⟩,
  ⟨some 38, .len false (.t 37), none, []⟩,
  ⟨some 39, .bin .lss (.t 35) (.t 38), none, []⟩,
  ⟨some 4, .move (.t 39), none, []⟩]
def r84_7 : List VOper := [
  ⟨some 5, .move (.c (.d (.int .i64 0))), none, []⟩]
def r84_8 : List VOper := [
  ⟨some 40, .move (.t 5), none, []⟩,
  ⟨some 41, .fieldAddr 2 (.t 2), none, []⟩,
  ⟨some 42, .load false 1 (.t 41), none, []⟩,
  ⟨some 43, .len false (.t 42), none, []⟩,
  ⟨some 44, .bin .lss (.t 40) (.t 43), none, []⟩]
def r84_10 : List VOper := [
  ⟨some 47, .fieldAddr 2 (.t 2), none, []⟩,
  ⟨some 48, .load false 1 (.t 47), none, [0]⟩,
  ⟨some 49, .move (.t 5), none, []⟩,
  ⟨some 50, .indexAddr 3 none (.t 48) (.t 49), none, [1, 2]⟩,
  ⟨some 51, .load true 3 (.t 50), none, [3]⟩,
  ⟨some 52, .fieldAddr 2 (.t 3), none, []⟩,
  ⟨some 53, .load false 1 (.t 52), none, [5]⟩,
  ⟨some 54, .move (.t 5), none, []⟩,
  ⟨some 55, .indexAddr 3 none (.t 53) (.t 54), none, [6, 7]⟩,
  ⟨some 56, .load true 3 (.t 55), none, [8]⟩,
  ⟨some 57, .call true (.c (.fn 3 [])) [.t 51, .t 56], none, [4, 9]⟩,
  ⟨some 58, .not (.t 57), none, [10]⟩]
def r84_11 : List VOper := [
  ⟨some 59, .fieldAddr 2 (.t 2), none, []⟩,
  ⟨some 60, .load false 1 (.t 59), none, [0]⟩,
  ⟨some 61, .move (.t 5), none, []⟩,
  ⟨some 62, .indexAddr 3 none (.t 60) (.t 61), none, [1, 2]⟩,
  ⟨some 63, .load true 3 (.t 62), none, [3]⟩,
  ⟨some 64, .fieldAddr 2 (.t 3), none, []⟩,
  ⟨some 65, .load false 1 (.t 64), none, [5]⟩,
  ⟨some 66, .move (.t 5), none, []⟩,
  ⟨some 67, .indexAddr 3 none (.t 65) (.t 66), none, [6, 7]⟩,
  ⟨some 68, .load true 3 (.t 67), none, [8]⟩,
  ⟨some 69, .call true (.c (.fn 84 [])) [.t 63, .t 68], none, [4, 9]⟩,
  ⟨some 4, .move (.t 69), none, [0, 1, 2, 3, 4, 5, 6, 7, 8, 9, 10]⟩]
def r84_9 : List VOper := [
  ⟨some 45, .move (.t 5), none, []⟩,
  ⟨some 46, .bin .add (.t 45) (.c (.d (.int .i64 1))), none, []⟩,
  ⟨some 5, .move (.t 46), none, []⟩]
def b84_0 : VCode := (.seq (.seq (.region false 0 [2, 3, 5, 44] r84_8) (.cond (.t 44) .skip (.exit 0))) (.seq (.block 1 (.seq (.region true 0 [2, 3, 5, 58] r84_10) (.cond (.t 58) (.seq (.region true 0 [4] r84_11) .ret) .skip))) (.region false 0 [2, 3, 5] r84_9)))
def r84_12 : List VOper := [
  ⟨some 4, .move (.c (.d (.bool false))), none, []⟩]
def v84 : VFn := ⟨2, [.tmp 4], (.seq (.region false 2 [2, 3] r84_0) (.seq (.seq (.region false 0 [2, 3, 10] r84_1) (.cond (.t 10) (.seq (.region false 0 [4] r84_2) .ret) .skip)) (.seq (.seq (.region false 0 [2, 3, 20] r84_3) (.cond (.t 20) (.seq (.region false 0 [4] r84_4) .ret) .skip)) (.seq (.seq (.region false 0 [2, 3, 32] r84_5) (.cond (.t 32) (.seq (.region false 0 [4] r84_6) .ret) .skip)) (.seq (.seq (.region false 0 [2, 3, 5] r84_7) (.block 0 (.loop [2, 3, 5] b84_0))) (.seq (.region false 0 [4] r84_12) .ret))))))⟩
/-! loop.example/g00461/laws.eqBind -/
def r86_0 : List VOper := [
  ⟨some 2, .box 0 (.t 0), none, []⟩,
  ⟨some 3, .box 1 (.t 1), none, []⟩,
  ⟨some 4, .move (.c (.d (.bool false))), none, []⟩]
def r86_1 : List VOper := [
  ⟨some 5, .fieldAddr 0 (.t 2), none, []⟩,
  ⟨some 6, .load false 1 (.t 5), none, []⟩,
  ⟨some 7, .fieldAddr 0 (.t 3), none, []⟩,
  ⟨some 8, .load false 1 (.t 7), none, []⟩,
  ⟨some 9, .bin .neq (.t 6) (.t 8), none, []⟩]
def r86_2 : List VOper := [
  ⟨some 4, .move (.c (.d (.bool false))), none, []⟩]
def r86_3 : List VOper := [
  ⟨some 10, .fieldAddr 1 (.t 2), none, []⟩,
  ⟨some 11, .load true 3 (.t 10), none, []⟩,
  ⟨some 12, .fieldAddr 1 (.t 3), none, []⟩,
  ⟨some 13, .load true 3 (.t 12), none, []⟩,
  ⟨some 14, .call true (.c (.fn 5 [])) [.t 11, .t 13], none, []⟩,
  ⟨some 15, .not (.t 14), none, []⟩]
def r86_4 : List VOper := [
  ⟨some 4, .move (.c (.d (.bool false))), none, []⟩]
def r86_5 : List VOper := [
  ⟨some 4, .move (.c (.d (.bool true))), none, []⟩]
def v86 : VFn := ⟨2, [.tmp 4], (.seq (.region false 2 [2, 3] r86_0) (.seq (.seq (.region false 0 [2, 3, 9] r86_1) (.cond (.t 9) (.seq (.region false 0 [4] r86_2) .ret) .skip)) (.seq (.seq (.region false 0 [15] r86_3) (.cond (.t 15) (.seq (.region false 0 [4] r86_4) .ret) .skip)) (.seq (.region false 0 [4] r86_5) .ret))))⟩
/-! loop.example/g00461/laws.toBind -/
def r87_0 : List VOper := [
  ⟨some 1, .box 0 (.t 0), none, []⟩,
  ⟨some 2, .alloc 1 [.int .i64 0, .int .i64 0, .int .i64 0, .sl .nil []], none, []⟩]
def r87_1 : List VOper := [
  ⟨some 3, .alloc 0 [.int .i64 0, .int .i64 0, .int .i64 0, .sl .nil []], none, []⟩]
def r87_2 : List VOper := [
  ⟨some 4, .fieldAddr 0 (.t 1), none, []⟩,
  ⟨some 5, .load false 1 (.t 4), none, []⟩,
  ⟨some 6, .fieldAddr 0 (.t 3), none, []⟩,
  ⟨none, .store false 1 (.t 6) (.t 5), none, []⟩]
def r87_3 : List VOper := [
  ⟨some 7, .fieldAddr 1 (.t 1), none, []⟩,
  ⟨some 8, .load true 3 (.t 7), none, []⟩,
  ⟨some 9, .call true (.c (.fn 2 [])) [.t 8], none, []⟩,
  ⟨some 10, .fieldAddr 1 (.t 3), none, []⟩,
  ⟨none, .store false 3 (.t 10) (.t 9), none, []⟩]
def r87_4 : List VOper := [
  ⟨some 11, .load true 4 (.t 3), none, []⟩,
  ⟨none, .store false 4 (.t 2) (.t 11), none, []⟩]
def v87 : VFn := ⟨1, [.cell 2 true 4], (.seq (.region false 2 [1, 2] r87_0) (.seq (.region false 1 [1, 2, 3] r87_1) (.seq (.region false 0 [1, 2, 3] r87_2) (.seq (.region false 0 [2, 3] r87_3) (.seq (.region false 0 [2] r87_4) .ret)))))⟩
/-! loop.example/g00461/laws.szBind -/
def r88_0 : List VOper := [
  ⟨some 2, .box 0 (.t 0), none, []⟩,
  ⟨some 4, .move (.c (.d (.int .i64 0))), none, []⟩]
def r88_1 : List VOper := [
  ⟨some 5, .fieldAddr 1 (.t 2), none, []⟩,
  ⟨some 6, .load true 3 (.t 5), none, []⟩,
  ⟨some 7, .move (.t 1), none, []⟩,
  ⟨some 8, .call true (.c (.fn 1 [])) [.t 6, .t 7], none, []⟩,
  ⟨some 1, .move (.t 8), none, []⟩]
def r88_2 : List VOper := [
  ⟨some 9, .move (.t 1), none, []⟩,
  ⟨some 10, .bin .lss (.t 9) (.c (.d (.int .i64 0))), none, []⟩]
def r88_3 : List VOper := [
  ⟨some 4, .move (.c (.d (.int .i64 (-1)))), none, []⟩]
def r88_4 : List VOper := [
  ⟨some 11, .move (.t 1), none, []⟩,
  ⟨some 4, .move (.t 11), none, []⟩]
def v88 : VFn := ⟨2, [.tmp 4], (.seq (.region false 1 [1, 2] r88_0) (.seq (.region false 0 [1] r88_1) (.seq (.seq (.region false 0 [1, 10] r88_2) (.cond (.t 10) (.seq (.region false 0 [4] r88_3) .ret) .skip)) (.seq (.region false 0 [4] r88_4) .ret))))⟩
/-! loop.example/g00461/impl.Apply -/
def r135_0 : List VOper := [
  ⟨some 5, .box 0 (.t 2), none, []⟩,
  ⟨some 6, .alloc 1 [.int .i64 0, .int .i64 0, .sl .nil []], none, []⟩]
def r135_1 : List VOper := [
  ⟨some 7, .move (.t 0), none, []⟩,
  ⟨some 8, .move (.t 1), none, []⟩,
  ⟨some 9, .load true 3 (.t 5), none, []⟩,
  ⟨some 10, .call true (.c (.fn 168 [])) [.t 8, .t 9], none, []⟩,
  ⟨some 11, .call true (.c (.fn 169 [])) [.t 7, .t 10], none, []⟩,
  ⟨none, .store false 3 (.t 6) (.t 11), none, []⟩]
def v135 : VFn := ⟨3, [.cell 6 true 3], (.seq (.region false 2 [0, 1, 5, 6] r135_0) (.seq (.region false 0 [6] r135_1) .ret))⟩
/-! loop.example/g00461/impl.SubAdd -/
def r137_0 : List VOper := [
  ⟨some 6, .box 0 (.t 2), none, []⟩,
  ⟨some 7, .box 1 (.t 3), none, []⟩,
  ⟨some 8, .move (.c (.d (.sl .nil []))), none, []⟩]
def r137_1 : List VOper := [
  ⟨some 14, .load false 1 (.t 6), none, []⟩,
  ⟨some 15, .load true 3 (.t 7), none, []⟩,
  ⟨some 16, .build [.int .i64 0, .int .i64 0, .int .i64 0, .sl .nil []] [(0, 1, .t 14), (1, 3, .t 15)], none, []⟩,
  ⟨some 17, .buildSlice 4 (.agg [.int .i64 0, .int .i64 0, .int .i64 0, .sl .nil []]) 1 [(0, .t 16)], none, []⟩,
  ⟨some 9, .move (.t 17), none, []⟩]
def r137_2 : List VOper := [
  ⟨some 18, .buildSlice 4 (.agg [.int .i64 0, .int .i64 0, .int .i64 0, .sl .nil []]) 0 [], none, []⟩,
  ⟨some 10, .move (.t 18), none, []⟩]
def r137_3 : List VOper := [
  ⟨some 19, .move (.t 1), none, []⟩,
  ⟨some 20, .makeFunc 167 [.t 6], none, []⟩,
  ⟨some 21, .call false (.c (.fn 76 [])) [.t 19, .t 20], none, []⟩,
  ⟨some 11, .move (.t 21), none, []⟩]
def r137_4 : List VOper := [
  ⟨some 22, .move (.t 1), none, []⟩,
  ⟨some 23, .len false (.t 22), none, []⟩,
  ⟨some 24, .move (.c (.d (.int .i64 0))), none, []⟩]
def r137_5 : List VOper := [
  ⟨some 25, .bin .lss (.t 24) (.t 23), none, []⟩]
def r137_6 : List VOper := [
  ⟨some 26, .move (.t 24), none, []⟩,
  ⟨some 27, .indexAddr 4 none (.t 22) (.t 24), none, []⟩,
  ⟨some 28, .load true 4 (.t 27), none, []⟩,
  ⟨some 13, .alloc 0 [.int .i64 0, .int .i64 0, .int .i64 0, .sl .nil []], none, []⟩,
  ⟨some 12, .move (.t 26), none, []⟩,
  ⟨none, .store false 4 (.t 13) (.t 28), none, []⟩]
def r137_7 : List VOper := [
  ⟨some 29, .move (.t 12), none, []⟩,
  ⟨some 30, .move (.t 11), none, []⟩,
  ⟨some 31, .bin .eql (.t 29) (.t 30), none, []⟩]
def r137_8 : List VOper := [
  ⟨some 32, .move (.t 10), none, []⟩,
  ⟨some 33, .load false 1 (.t 6), none, []⟩,
  ⟨some 34, .load true 3 (.t 7), none, []⟩,
  ⟨some 35, .call true (.c (.fn 150 [])) [.t 34], none, [2]⟩,
  ⟨some 36, .build [.int .i64 0, .int .i64 0, .int .i64 0, .sl .nil []] [(0, 1, .t 33), (1, 3, .t 35)], none, [1, 3]⟩,
  ⟨some 37, .buildSlice 4 (.agg [.int .i64 0, .int .i64 0, .int .i64 0, .sl .nil []]) 1 [(0, .t 36)], none, [4]⟩,
  ⟨some 38, .append 4 48 (.t 32) (.t 37), none, [0, 3, 5]⟩,
  ⟨some 10, .move (.t 38), none, [0, 1, 2, 3, 4, 5, 6]⟩]
def r137_9 : List VOper := [
  ⟨some 39, .fieldAddr 0 (.t 13), none, []⟩,
  ⟨some 40, .load false 1 (.t 39), none, []⟩,
  ⟨some 41, .load false 1 (.t 6), none, []⟩,
  ⟨some 42, .bin .neq (.t 40) (.t 41), none, []⟩]
def r137_10 : List VOper := [
  ⟨some 43, .move (.t 10), none, []⟩,
  ⟨some 44, .fieldAddr 0 (.t 13), none, []⟩,
  ⟨some 45, .load false 1 (.t 44), none, [1]⟩,
  ⟨some 46, .move (.t 0), none, []⟩,
  ⟨some 47, .move (.t 9), none, []⟩,
  ⟨some 48, .fieldAddr 1 (.t 13), none, []⟩,
  ⟨some 49, .load true 3 (.t 48), none, [5]⟩,
  ⟨some 50, .call true (.c (.fn 135 [])) [.t 46, .t 47, .t 49], none, [3, 4, 6]⟩,
  ⟨some 51, .build [.int .i64 0, .int .i64 0, .int .i64 0, .sl .nil []] [(0, 1, .t 45), (1, 3, .t 50)], none, [2, 7]⟩,
  ⟨some 52, .buildSlice 4 (.agg [.int .i64 0, .int .i64 0, .int .i64 0, .sl .nil []]) 1 [(0, .t 51)], none, [8]⟩,
  ⟨some 53, .append 4 48 (.t 43) (.t 52), none, [0, 7, 9]⟩,
  ⟨some 10, .move (.t 53), none, [0, 1, 2, 3, 4, 5, 6, 7, 8, 9, 10]⟩]
def r137_11 : List VOper := [
  ⟨some 54, .bin .add (.t 24) (.c (.d (.int .i64 1))), none, []⟩,
  ⟨some 24, .move (.t 54), none, []⟩]
def b137_0 : VCode := (.seq (.region false 0 [0, 6, 7, 9, 10, 11, 22, 23, 24, 25] r137_5) (.seq (.cond (.t 25) .skip (.exit 0)) (.seq (.block 1 (.seq (.region false 1 [0, 6, 7, 9, 10, 11, 12, 13, 22, 23, 24] r137_6) (.seq (.seq (.region false 0 [0, 6, 7, 9, 10, 11, 13, 22, 23, 24, 31] r137_7) (.cond (.t 31) (.region true 0 [0, 6, 7, 9, 10, 11, 13, 22, 23, 24] r137_8) .skip)) (.seq (.region false 0 [0, 6, 7, 9, 10, 11, 13, 22, 23, 24, 42] r137_9) (.cond (.t 42) (.region true 0 [0, 6, 7, 9, 10, 11, 22, 23, 24] r137_10) .skip))))) (.region false 0 [0, 6, 7, 9, 10, 11, 22, 23, 24] r137_11))))
def r137_12 : List VOper := [
  ⟨some 55, .move (.t 11), none, []⟩,
  ⟨some 56, .bin .lss (.t 55) (.c (.d (.int .i64 0))), none, []⟩]
def r137_13 : List VOper := [
  ⟨some 57, .move (.t 10), none, []⟩,
  ⟨some 58, .load false 1 (.t 6), none, []⟩,
  ⟨some 59, .load true 3 (.t 7), none, []⟩,
  ⟨some 60, .call true (.c (.fn 150 [])) [.t 59], none, [2]⟩,
  ⟨some 61, .build [.int .i64 0, .int .i64 0, .int .i64 0, .sl .nil []] [(0, 1, .t 58), (1, 3, .t 60)], none, [1, 3]⟩,
  ⟨some 62, .buildSlice 4 (.agg [.int .i64 0, .int .i64 0, .int .i64 0, .sl .nil []]) 1 [(0, .t 61)], none, [4]⟩,
  ⟨some 63, .append 4 48 (.t 57) (.t 62), none, [0, 3, 5]⟩,
  ⟨some 10, .move (.t 63), none, [0, 1, 2, 3, 4, 5, 6]⟩]
def r137_14 : List VOper := [
  ⟨some 64, .move (.t 10), none, []⟩,
  ⟨some 8, .move (.t 64), none, []⟩]
def v137 : VFn := ⟨4, [.tmp 8], (.seq (.region false 2 [0, 1, 6, 7] r137_0) (.seq (.region false 0 [0, 1, 6, 7, 9] r137_1) (.seq (.region false 0 [0, 1, 6, 7, 9, 10] r137_2) (.seq (.region false 0 [0, 1, 6, 7, 9, 10, 11] r137_3) (.seq (.seq (.region false 0 [0, 6, 7, 9, 10, 11, 22, 23, 24] r137_4) (.block 0 (.loop [0, 6, 7, 9, 10, 11, 22, 23, 24] b137_0))) (.seq (.seq (.region false 0 [6, 7, 10, 56] r137_12) (.cond (.t 56) (.region true 0 [10] r137_13) .skip)) (.seq (.region false 0 [8] r137_14) .ret)))))))⟩
/-! loop.example/g00461/spec.Apply -/
def r141_0 : List VOper := [
  ⟨some 5, .box 0 (.t 2), none, []⟩,
  ⟨some 6, .alloc 1 [.int .i64 0, .int .i64 0, .sl .nil []], none, []⟩]
def r141_1 : List VOper := [
  ⟨some 7, .move (.t 0), none, []⟩,
  ⟨some 8, .move (.t 1), none, []⟩,
  ⟨some 9, .load true 3 (.t 5), none, []⟩,
  ⟨some 10, .call true (.c (.fn 152 [])) [.t 8, .t 9], none, []⟩,
  ⟨some 11, .call true (.c (.fn 153 [])) [.t 7, .t 10], none, []⟩,
  ⟨none, .store false 3 (.t 6) (.t 11), none, []⟩]
def v141 : VFn := ⟨3, [.cell 6 true 3], (.seq (.region false 2 [0, 1, 5, 6] r141_0) (.seq (.region false 0 [6] r141_1) .ret))⟩
/-! loop.example/g00461/spec.SubAdd -/
def r142_0 : List VOper := [
  ⟨some 7, .box 0 (.t 3), none, []⟩,
  ⟨some 8, .move (.c (.d (.sl .nil []))), none, []⟩]
def r142_1 : List VOper := [
  ⟨some 13, .buildSlice 4 (.agg [.int .i64 0, .int .i64 0, .int .i64 0, .sl .nil []]) 0 [], none, []⟩,
  ⟨some 9, .move (.t 13), none, []⟩]
def r142_2 : List VOper := [
  ⟨some 14, .move (.t 2), none, []⟩,
  ⟨some 15, .load true 3 (.t 7), none, []⟩,
  ⟨some 16, .build [.int .i64 0, .int .i64 0, .int .i64 0, .sl .nil []] [(0, 1, .t 14), (1, 3, .t 15)], none, []⟩,
  ⟨some 17, .buildSlice 4 (.agg [.int .i64 0, .int .i64 0, .int .i64 0, .sl .nil []]) 1 [(0, .t 16)], none, []⟩,
  ⟨some 10, .move (.t 17), none, []⟩]
def r142_3 : List VOper := [
  ⟨some 11, .move (.c (.d (.bool false))), none, []⟩]
def r142_4 : List VOper := [
  ⟨some 12, .move (.c (.d (.int .i64 0))), none, []⟩]
def r142_5 : List VOper := [
  ⟨some 18, .move (.t 12), none, []⟩,
  ⟨some 19, .move (.t 1), none, []⟩,
  ⟨some 20, .len false (.t 19), none, []⟩,
  ⟨some 21, .bin .lss (.t 18) (.t 20), none, []⟩]
def r142_7 : List VOper := [
  ⟨some 24, .move (.t 11), none, []⟩,
  ⟨some 25, .not (.t 24), none, []⟩,
  ⟨some 26, .move (.t 25), none, []⟩,
  ⟨some 27, .move (.t 1), some (26, true), []⟩,
  ⟨some 28, .move (.t 12), some (26, true), []⟩,
  ⟨some 29, .indexAddr 4 none (.t 27) (.t 28), some (26, true), []⟩,
  ⟨some 30, .fieldAddr 0 (.t 29), some (26, true), []⟩,
  ⟨some 31, .load false 1 (.t 30), some (26, true), []⟩,
  ⟨some 32, .move (.t 2), some (26, true), []⟩,
  ⟨some 33, .bin .geq (.t 31) (.t 32), some (26, true), []⟩,
  ⟨some 34, .pick (.t 26) (.t 33) (.c (.d (.bool false))), none, []⟩]
def r142_8 : List VOper := [
  ⟨some 35, .move (.t 9), none, []⟩,
  ⟨some 36, .move (.t 2), none, []⟩,
  ⟨some 37, .load true 3 (.t 7), none, []⟩,
  ⟨some 38, .call true (.c (.fn 146 [])) [.t 37], none, []⟩,
  ⟨some 39, .build [.int .i64 0, .int .i64 0, .int .i64 0, .sl .nil []] [(0, 1, .t 36), (1, 3, .t 38)], none, []⟩,
  ⟨some 40, .buildSlice 4 (.agg [.int .i64 0, .int .i64 0, .int .i64 0, .sl .nil []]) 1 [(0, .t 39)], none, []⟩,
  ⟨some 41, .append 4 48 (.t 35) (.t 40), none, []⟩,
  ⟨some 9, .move (.t 41), none, []⟩]
def r142_9 : List VOper := [
  ⟨some 11, .move (.c (.d (.bool true))), none, []⟩]
def r142_10 : List VOper := [
  ⟨some 42, .move (.t 1), none, []⟩,
  ⟨some 43, .move (.t 12), none, []⟩,
  ⟨some 44, .indexAddr 4 none (.t 42) (.t 43), none, []⟩,
  ⟨some 45, .fieldAddr 0 (.t 44), none, []⟩,
  ⟨some 46, .load false 1 (.t 45), none, []⟩,
  ⟨some 47, .move (.t 2), none, []⟩,
  ⟨some 48, .bin .neq (.t 46) (.t 47), none, []⟩]
def r142_11 : List VOper := [
  ⟨some 49, .move (.t 9), none, []⟩,
  ⟨some 50, .move (.t 1), none, []⟩,
  ⟨some 51, .move (.t 12), none, []⟩,
  ⟨some 52, .indexAddr 4 none (.t 50) (.t 51), none, [1, 2]⟩,
  ⟨some 53, .fieldAddr 0 (.t 52), none, [3]⟩,
  ⟨some 54, .load false 1 (.t 53), none, [4]⟩,
  ⟨some 55, .move (.t 0), none, []⟩,
  ⟨some 56, .move (.t 10), none, []⟩,
  ⟨some 57, .move (.t 1), none, []⟩,
  ⟨some 58, .move (.t 12), none, []⟩,
  ⟨some 59, .indexAddr 4 none (.t 57) (.t 58), none, [8, 9]⟩,
  ⟨some 60, .fieldAddr 1 (.t 59), none, [10]⟩,
  ⟨some 61, .load true 3 (.t 60), none, [11]⟩,
  ⟨some 62, .call true (.c (.fn 141 [])) [.t 55, .t 56, .t 61], none, [6, 7, 12]⟩,
  ⟨some 63, .build [.int .i64 0, .int .i64 0, .int .i64 0, .sl .nil []] [(0, 1, .t 54), (1, 3, .t 62)], none, [5, 13]⟩,
  ⟨some 64, .buildSlice 4 (.agg [.int .i64 0, .int .i64 0, .int .i64 0, .sl .nil []]) 1 [(0, .t 63)], none, [14]⟩,
  ⟨some 65, .append 4 48 (.t 49) (.t 64), none, [0, 13, 15]⟩,
  ⟨some 9, .move (.t 65), none, [0, 1, 2, 3, 4, 5, 6, 7, 8, 9, 10, 11, 12, 13, 14, 15, 16]⟩]
def r142_6 : List VOper := [
  ⟨some 22, .move (.t 12), none, []⟩,
  ⟨some 23, .bin .add (.t 22) (.c (.d (.int .i64 1))), none, []⟩,
  ⟨some 12, .move (.t 23), none, []⟩]
def b142_0 : VCode := (.seq (.seq (.region false 0 [0, 1, 2, 7, 9, 10, 11, 12, 21] r142_5) (.cond (.t 21) .skip (.exit 0))) (.seq (.block 1 (.seq (.seq (.region false 0 [0, 1, 2, 7, 9, 10, 11, 12, 34] r142_7) (.cond (.t 34) (.seq (.region false 0 [0, 1, 2, 7, 9, 10, 12] r142_8) (.region false 0 [0, 1, 2, 7, 9, 10, 11, 12] r142_9)) .skip)) (.seq (.region false 0 [0, 1, 2, 7, 9, 10, 11, 12, 48] r142_10) (.cond (.t 48) (.region true 0 [0, 1, 2, 7, 9, 10, 11, 12] r142_11) .skip)))) (.region false 0 [0, 1, 2, 7, 9, 10, 11, 12] r142_6)))
def r142_12 : List VOper := [
  ⟨some 66, .move (.t 11), none, []⟩,
  ⟨some 67, .not (.t 66), none, []⟩]
def r142_13 : List VOper := [
  ⟨some 68, .move (.t 9), none, []⟩,
  ⟨some 69, .move (.t 2), none, []⟩,
  ⟨some 70, .load true 3 (.t 7), none, []⟩,
  ⟨some 71, .call true (.c (.fn 146 [])) [.t 70], none, []⟩,
  ⟨some 72, .build [.int .i64 0, .int .i64 0, .int .i64 0, .sl .nil []] [(0, 1, .t 69), (1, 3, .t 71)], none, []⟩,
  ⟨some 73, .buildSlice 4 (.agg [.int .i64 0, .int .i64 0, .int .i64 0, .sl .nil []]) 1 [(0, .t 72)], none, []⟩,
  ⟨some 74, .append 4 48 (.t 68) (.t 73), none, []⟩,
  ⟨some 9, .move (.t 74), none, []⟩]
def r142_14 : List VOper := [
  ⟨some 75, .move (.t 9), none, []⟩,
  ⟨some 8, .move (.t 75), none, []⟩]
def v142 : VFn := ⟨4, [.tmp 8], (.seq (.region false 1 [0, 1, 2, 7] r142_0) (.seq (.region false 0 [0, 1, 2, 7, 9] r142_1) (.seq (.region false 0 [0, 1, 2, 7, 9, 10] r142_2) (.seq (.region false 0 [0, 1, 2, 7, 9, 10, 11] r142_3) (.seq (.seq (.region false 0 [0, 1, 2, 7, 9, 10, 11, 12] r142_4) (.block 0 (.loop [0, 1, 2, 7, 9, 10, 11, 12] b142_0))) (.seq (.seq (.region false 0 [2, 7, 9, 67] r142_12) (.cond (.t 67) (.region false 0 [9] r142_13) .skip)) (.seq (.region false 0 [8] r142_14) .ret)))))))⟩
/-! loop.example/g00461/impl.Look -/
def r144_0 : List VOper := [
  ⟨some 4, .alloc 0 [.int .i64 0, .int .i64 0, .sl .nil []], none, []⟩]
def r144_1 : List VOper := [
  ⟨some 8, .move (.t 0), none, []⟩,
  ⟨some 9, .move (.t 1), none, []⟩,
  ⟨some 10, .call true (.c (.fn 148 [])) [.t 8, .t 9], none, []⟩,
  ⟨some 7, .move (.t 10), none, []⟩,
  ⟨some 11, .extract (.t 7) 0, none, []⟩,
  ⟨some 12, .extract (.t 7) 1, none, []⟩,
  ⟨some 5, .alloc 0 [.int .i64 0, .int .i64 0, .sl .nil []], none, []⟩,
  ⟨none, .store false 3 (.t 5) (.t 11), none, []⟩,
  ⟨some 6, .move (.t 12), none, []⟩]
def r144_2 : List VOper := [
  ⟨some 13, .move (.t 6), none, []⟩,
  ⟨some 14, .not (.t 13), none, []⟩]
def r144_3 : List VOper := [
  ⟨some 15, .move (.t 1), none, []⟩,
  ⟨some 16, .call true (.c (.fn 149 [])) [.t 15], none, []⟩,
  ⟨none, .store false 3 (.t 4) (.t 16), none, []⟩]
def r144_4 : List VOper := [
  ⟨some 17, .load true 3 (.t 5), none, []⟩,
  ⟨some 18, .call true (.c (.fn 150 [])) [.t 17], none, []⟩,
  ⟨none, .store false 3 (.t 4) (.t 18), none, []⟩]
def v144 : VFn := ⟨2, [.cell 4 true 3], (.seq (.region false 1 [0, 1, 4] r144_0) (.seq (.region false 1 [1, 4, 5, 6] r144_1) (.seq (.seq (.region false 0 [1, 4, 5, 14] r144_2) (.cond (.t 14) (.seq (.region false 0 [4] r144_3) .ret) .skip)) (.seq (.region false 0 [4] r144_4) .ret))))⟩
/-! loop.example/g00461/spec.Look -/
def r145_0 : List VOper := [
  ⟨some 4, .alloc 0 [.int .i64 0, .int .i64 0, .sl .nil []], none, []⟩]
def r145_1 : List VOper := [
  ⟨some 5, .move (.c (.d (.int .i64 0))), none, []⟩]
def r145_2 : List VOper := [
  ⟨some 6, .move (.t 5), none, []⟩,
  ⟨some 7, .move (.t 0), none, []⟩,
  ⟨some 8, .len false (.t 7), none, []⟩,
  ⟨some 9, .bin .lss (.t 6) (.t 8), none, []⟩]
def r145_4 : List VOper := [
  ⟨some 12, .move (.t 0), none, []⟩,
  ⟨some 13, .move (.t 5), none, []⟩,
  ⟨some 14, .indexAddr 4 none (.t 12) (.t 13), none, []⟩,
  ⟨some 15, .fieldAddr 0 (.t 14), none, []⟩,
  ⟨some 16, .load false 1 (.t 15), none, []⟩,
  ⟨some 17, .move (.t 1), none, []⟩,
  ⟨some 18, .bin .eql (.t 16) (.t 17), none, []⟩]
def r145_5 : List VOper := [
  ⟨some 19, .move (.t 0), none, []⟩,
  ⟨some 20, .move (.t 5), none, []⟩,
  ⟨some 21, .indexAddr 4 none (.t 19) (.t 20), none, []⟩,
  ⟨some 22, .fieldAddr 1 (.t 21), none, []⟩,
  ⟨some 23, .load true 3 (.t 22), none, []⟩,
  ⟨some 24, .call true (.c (.fn 146 [])) [.t 23], none, []⟩,
  ⟨none, .store false 3 (.t 4) (.t 24), none, []⟩]
def r145_3 : List VOper := [
  ⟨some 10, .move (.t 5), none, []⟩,
  ⟨some 11, .bin .add (.t 10) (.c (.d (.int .i64 1))), none, []⟩,
  ⟨some 5, .move (.t 11), none, []⟩]
def b145_0 : VCode := (.seq (.seq (.region false 0 [0, 1, 4, 5, 9] r145_2) (.cond (.t 9) .skip (.exit 0))) (.seq (.block 1 (.seq (.region false 0 [0, 1, 4, 5, 18] r145_4) (.cond (.t 18) (.seq (.region false 0 [4] r145_5) .ret) .skip))) (.region false 0 [0, 1, 4, 5] r145_3)))
def r145_6 : List VOper := [
  ⟨some 25, .move (.t 1), none, []⟩,
  ⟨some 26, .call true (.c (.fn 147 [])) [.t 25], none, []⟩,
  ⟨none, .store false 3 (.t 4) (.t 26), none, []⟩]
def v145 : VFn := ⟨2, [.cell 4 true 3], (.seq (.region false 1 [0, 1, 4] r145_0) (.seq (.seq (.region false 0 [0, 1, 4, 5] r145_1) (.block 0 (.loop [0, 1, 4, 5] b145_0))) (.seq (.region false 0 [4] r145_6) .ret)))⟩
/-! loop.example/g00461/spec.l3Copy -/
def r146_0 : List VOper := [
  ⟨some 1, .box 0 (.t 0), none, []⟩,
  ⟨some 2, .alloc 1 [.int .i64 0, .int .i64 0, .sl .nil []], none, []⟩]
def r146_1 : List VOper := [
  ⟨some 5, .fieldAddr 0 (.t 1), none, []⟩,
  ⟨some 6, .load false 1 (.t 5), none, []⟩,
  ⟨some 7, .fieldAddr 1 (.t 1), none, []⟩,
  ⟨some 8, .load false 1 (.t 7), none, []⟩,
  ⟨some 9, .build [.int .i64 0, .int .i64 0, .sl .nil []] [(0, 1, .t 6), (1, 1, .t 8)], none, []⟩,
  ⟨some 3, .alloc 0 [.int .i64 0, .int .i64 0, .sl .nil []], none, []⟩,
  ⟨none, .store false 3 (.t 3) (.t 9), none, []⟩]
def r146_2 : List VOper := [
  ⟨some 4, .move (.c (.d (.int .i64 0))), none, []⟩]
def r146_3 : List VOper := [
  ⟨some 10, .move (.t 4), none, []⟩,
  ⟨some 11, .fieldAddr 2 (.t 1), none, []⟩,
  ⟨some 12, .load false 1 (.t 11), none, []⟩,
  ⟨some 13, .len false (.t 12), none, []⟩,
  ⟨some 14, .bin .lss (.t 10) (.t 13), none, []⟩]
def r146_5 : List VOper := [
  ⟨some 17, .fieldAddr 2 (.t 3), none, []⟩,
  ⟨some 18, .load false 1 (.t 17), none, [0]⟩,
  ⟨some 19, .fieldAddr 2 (.t 1), none, []⟩,
  ⟨some 20, .load false 1 (.t 19), none, [2]⟩,
  ⟨some 21, .move (.t 4), none, []⟩,
  ⟨some 22, .indexAddr 3 none (.t 20) (.t 21), none, [3, 4]⟩,
  ⟨some 23, .load true 3 (.t 22), none, [5]⟩,
  ⟨some 24, .call true (.c (.fn 146 [])) [.t 23], none, [6]⟩,
  ⟨some 25, .buildSlice 3 (.agg [.int .i64 0, .int .i64 0, .sl .nil []]) 1 [(0, .t 24)], none, [7]⟩,
  ⟨some 26, .append 3 40 (.t 18) (.t 25), none, [1, 7, 8]⟩,
  ⟨some 27, .fieldAddr 2 (.t 3), none, [0, 1, 2, 3, 4, 5, 6, 7, 8, 9]⟩,
  ⟨none, .store false 1 (.t 27) (.t 26), none, [0, 1, 2, 3, 4, 5, 6, 7, 8, 9, 10]⟩]
def r146_4 : List VOper := [
  ⟨some 15, .move (.t 4), none, []⟩,
  ⟨some 16, .bin .add (.t 15) (.c (.d (.int .i64 1))), none, []⟩,
  ⟨some 4, .move (.t 16), none, []⟩]
def b146_0 : VCode := (.seq (.seq (.region false 0 [1, 2, 3, 4, 14] r146_3) (.cond (.t 14) .skip (.exit 0))) (.seq (.block 1 (.region true 0 [1, 2, 3, 4] r146_5)) (.region false 0 [1, 2, 3, 4] r146_4)))
def r146_6 : List VOper := [
  ⟨some 28, .load true 3 (.t 3), none, []⟩,
  ⟨none, .store false 3 (.t 2) (.t 28), none, []⟩]
def v146 : VFn := ⟨1, [.cell 2 true 3], (.seq (.region false 2 [1, 2] r146_0) (.seq (.region false 1 [1, 2, 3] r146_1) (.seq (.seq (.region false 0 [1, 2, 3, 4] r146_2) (.block 0 (.loop [1, 2, 3, 4] b146_0))) (.seq (.region false 0 [2] r146_6) .ret))))⟩
/-! loop.example/g00461/spec.l3Var -/
def r147_0 : List VOper := [
  ⟨some 2, .alloc 0 [.int .i64 0, .int .i64 0, .sl .nil []], none, []⟩]
def r147_1 : List VOper := [
  ⟨some 3, .move (.t 0), none, []⟩,
  ⟨some 4, .build [.int .i64 0, .int .i64 0, .sl .nil []] [(0, 1, .c (.d (.int .i64 (-1)))), (1, 1, .t 3)], none, []⟩,
  ⟨none, .store false 3 (.t 2) (.t 4), none, []⟩]
def v147 : VFn := ⟨1, [.cell 2 true 3], (.seq (.region false 1 [0, 2] r147_0) (.seq (.region false 0 [2] r147_1) .ret))⟩
/-! loop.example/g00461/impl.bound -/
def r148_0 : List VOper := [
  ⟨some 4, .alloc 0 [.int .i64 0, .int .i64 0, .sl .nil []], none, []⟩,
  ⟨some 5, .move (.c (.d (.bool false))), none, []⟩]
def r148_1 : List VOper := [
  ⟨some 8, .move (.t 0), none, []⟩,
  ⟨some 9, .len false (.t 8), none, []⟩,
  ⟨some 10, .move (.c (.d (.int .i64 0))), none, []⟩]
def r148_2 : List VOper := [
  ⟨some 11, .bin .lss (.t 10) (.t 9), none, []⟩]
def r148_3 : List VOper := [
  ⟨some 12, .indexAddr 4 none (.t 8) (.t 10), none, []⟩,
  ⟨some 13, .load true 4 (.t 12), none, []⟩,
  ⟨some 7, .alloc 0 [.int .i64 0, .int .i64 0, .int .i64 0, .sl .nil []], none, []⟩,
  ⟨none, .store false 4 (.t 7) (.t 13), none, []⟩]
def r148_4 : List VOper := [
  ⟨some 14, .fieldAddr 0 (.t 7), none, []⟩,
  ⟨some 15, .load false 1 (.t 14), none, []⟩,
  ⟨some 16, .move (.t 1), none, []⟩,
  ⟨some 17, .bin .eql (.t 15) (.t 16), none, []⟩]
def r148_5 : List VOper := [
  ⟨some 18, .fieldAddr 1 (.t 7), none, []⟩,
  ⟨some 19, .load true 3 (.t 18), none, []⟩,
  ⟨none, .store false 3 (.t 4) (.t 19), none, []⟩,
  ⟨some 5, .move (.c (.d (.bool true))), none, []⟩]
def r148_6 : List VOper := [
  ⟨some 20, .bin .add (.t 10) (.c (.d (.int .i64 1))), none, []⟩,
  ⟨some 10, .move (.t 20), none, []⟩]
def b148_0 : VCode := (.seq (.region false 0 [1, 4, 8, 9, 10, 11] r148_2) (.seq (.cond (.t 11) .skip (.exit 0)) (.seq (.block 1 (.seq (.region false 1 [1, 4, 7, 8, 9, 10] r148_3) (.seq (.region false 0 [1, 4, 7, 8, 9, 10, 17] r148_4) (.cond (.t 17) (.seq (.region false 0 [4, 5] r148_5) .ret) .skip)))) (.region false 0 [1, 4, 8, 9, 10] r148_6))))
def r148_7 : List VOper := [
  ⟨some 21, .build [.int .i64 0, .int .i64 0, .sl .nil []] [], none, []⟩,
  ⟨none, .store false 3 (.t 4) (.t 21), none, []⟩,
  ⟨some 5, .move (.c (.d (.bool false))), none, []⟩]
def v148 : VFn := ⟨2, [.cell 4 true 3, .tmp 5], (.seq (.region false 1 [0, 1, 4] r148_0) (.seq (.seq (.region false 0 [1, 4, 8, 9, 10] r148_1) (.block 0 (.loop [1, 4, 8, 9, 10] b148_0))) (.seq (.region false 0 [4, 5] r148_7) .ret)))⟩
/-! loop.example/g00461/impl.variable -/
def r149_0 : List VOper := [
  ⟨some 2, .alloc 0 [.int .i64 0, .int .i64 0, .sl .nil []], none, []⟩]
def r149_1 : List VOper := [
  ⟨some 3, .move (.t 0), none, []⟩,
  ⟨some 4, .build [.int .i64 0, .int .i64 0, .sl .nil []] [(0, 1, .c (.d (.int .i64 (-1)))), (1, 1, .t 3)], none, []⟩,
  ⟨none, .store false 3 (.t 2) (.t 4), none, []⟩]
def v149 : VFn := ⟨1, [.cell 2 true 3], (.seq (.region false 1 [0, 2] r149_0) (.seq (.region false 0 [2] r149_1) .ret))⟩
/-! loop.example/g00461/impl.copyTerm -/
def r150_0 : List VOper := [
  ⟨some 1, .box 0 (.t 0), none, []⟩,
  ⟨some 2, .alloc 1 [.int .i64 0, .int .i64 0, .sl .nil []], none, []⟩]
def r150_1 : List VOper := [
  ⟨some 3, .fieldAddr 2 (.t 1), none, []⟩,
  ⟨some 4, .load false 1 (.t 3), none, []⟩,
  ⟨some 5, .call true (.c (.fn 151 [])) [.t 4], none, []⟩,
  ⟨some 6, .fieldAddr 2 (.t 1), none, []⟩,
  ⟨none, .store false 1 (.t 6) (.t 5), none, []⟩]
def r150_2 : List VOper := [
  ⟨some 7, .load true 3 (.t 1), none, []⟩,
  ⟨none, .store false 3 (.t 2) (.t 7), none, []⟩]
def v150 : VFn := ⟨1, [.cell 2 true 3], (.seq (.region false 2 [1, 2] r150_0) (.seq (.region false 0 [1, 2] r150_1) (.seq (.region false 0 [2] r150_2) .ret)))⟩
/-! loop.example/g00461/impl.copyTerms -/
def r151_0 : List VOper := [
  ⟨some 2, .move (.c (.d (.sl .nil []))), none, []⟩]
def r151_1 : List VOper := [
  ⟨some 6, .buildSlice 3 (.agg [.int .i64 0, .int .i64 0, .sl .nil []]) 0 [], none, []⟩,
  ⟨some 3, .move (.t 6), none, []⟩]
def r151_2 : List VOper := [
  ⟨some 7, .move (.t 0), none, []⟩,
  ⟨some 8, .len false (.t 7), none, []⟩,
  ⟨some 9, .move (.c (.d (.int .i64 0))), none, []⟩]
def r151_3 : List VOper := [
  ⟨some 10, .bin .lss (.t 9) (.t 8), none, []⟩]
def r151_4 : List VOper := [
  ⟨some 11, .indexAddr 3 none (.t 7) (.t 9), none, []⟩,
  ⟨some 12, .load true 3 (.t 11), none, []⟩,
  ⟨some 5, .alloc 0 [.int .i64 0, .int .i64 0, .sl .nil []], none, []⟩,
  ⟨none, .store false 3 (.t 5) (.t 12), none, []⟩]
def r151_5 : List VOper := [
  ⟨some 13, .move (.t 3), none, []⟩,
  ⟨some 14, .load true 3 (.t 5), none, []⟩,
  ⟨some 15, .call true (.c (.fn 150 [])) [.t 14], none, []⟩,
  ⟨some 16, .buildSlice 3 (.agg [.int .i64 0, .int .i64 0, .sl .nil []]) 1 [(0, .t 15)], none, []⟩,
  ⟨some 17, .append 3 40 (.t 13) (.t 16), none, []⟩,
  ⟨some 3, .move (.t 17), none, []⟩]
def r151_6 : List VOper := [
  ⟨some 18, .bin .add (.t 9) (.c (.d (.int .i64 1))), none, []⟩,
  ⟨some 9, .move (.t 18), none, []⟩]
def b151_0 : VCode := (.seq (.region false 0 [3, 7, 8, 9, 10] r151_3) (.seq (.cond (.t 10) .skip (.exit 0)) (.seq (.block 1 (.seq (.region false 1 [3, 5, 7, 8, 9] r151_4) (.region false 0 [3, 7, 8, 9] r151_5))) (.region false 0 [3, 7, 8, 9] r151_6))))
def r151_7 : List VOper := [
  ⟨some 19, .move (.t 3), none, []⟩,
  ⟨some 2, .move (.t 19), none, []⟩]
def v151 : VFn := ⟨1, [.tmp 2], (.seq (.region false 0 [0] r151_0) (.seq (.region false 0 [0, 3] r151_1) (.seq (.seq (.region false 0 [3, 7, 8, 9] r151_2) (.block 0 (.loop [3, 7, 8, 9] b151_0))) (.seq (.region false 0 [2] r151_7) .ret))))⟩
/-! loop.example/g00461/spec.l6Put -/
def r152_0 : List VOper := [
  ⟨some 3, .box 0 (.t 1), none, []⟩,
  ⟨some 4, .alloc 1 [.int .i64 0, .int .i64 0, .sl .nil []], none, []⟩]
def r152_1 : List VOper := [
  ⟨some 7, .fieldAddr 0 (.t 3), none, []⟩,
  ⟨some 8, .load false 1 (.t 7), none, []⟩,
  ⟨some 9, .bin .eql (.t 8) (.c (.d (.int .i64 (-1)))), none, []⟩,
  ⟨some 10, .move (.t 9), none, []⟩,
  ⟨some 11, .fieldAddr 2 (.t 3), some (10, true), []⟩,
  ⟨some 12, .load false 1 (.t 11), some (10, true), []⟩,
  ⟨some 13, .len false (.t 12), some (10, true), []⟩,
  ⟨some 14, .bin .eql (.t 13) (.c (.d (.int .i64 0))), some (10, true), []⟩,
  ⟨some 15, .pick (.t 10) (.t 14) (.c (.d (.bool false))), none, []⟩]
def r152_2 : List VOper := [
  ⟨some 16, .move (.t 0), none, []⟩,
  ⟨some 17, .fieldAddr 1 (.t 3), none, []⟩,
  ⟨some 18, .load false 1 (.t 17), none, []⟩,
  ⟨some 19, .call true (.c (.fn 145 [])) [.t 16, .t 18], none, []⟩,
  ⟨none, .store false 3 (.t 4) (.t 19), none, []⟩]
def r152_3 : List VOper := [
  ⟨some 20, .fieldAddr 0 (.t 3), none, []⟩,
  ⟨some 21, .load false 1 (.t 20), none, []⟩,
  ⟨some 22, .fieldAddr 1 (.t 3), none, []⟩,
  ⟨some 23, .load false 1 (.t 22), none, []⟩,
  ⟨some 24, .build [.int .i64 0, .int .i64 0, .sl .nil []] [(0, 1, .t 21), (1, 1, .t 23)], none, []⟩,
  ⟨some 5, .alloc 0 [.int .i64 0, .int .i64 0, .sl .nil []], none, []⟩,
  ⟨none, .store false 3 (.t 5) (.t 24), none, []⟩]
def r152_4 : List VOper := [
  ⟨some 6, .move (.c (.d (.int .i64 0))), none, []⟩]
def r152_5 : List VOper := [
  ⟨some 25, .move (.t 6), none, []⟩,
  ⟨some 26, .fieldAddr 2 (.t 3), none, []⟩,
  ⟨some 27, .load false 1 (.t 26), none, []⟩,
  ⟨some 28, .len false (.t 27), none, []⟩,
  ⟨some 29, .bin .lss (.t 25) (.t 28), none, []⟩]
def r152_7 : List VOper := [
  ⟨some 32, .fieldAddr 2 (.t 5), none, []⟩,
  ⟨some 33, .load false 1 (.t 32), none, [0]⟩,
  ⟨some 34, .move (.t 0), none, []⟩,
  ⟨some 35, .fieldAddr 2 (.t 3), none, []⟩,
  ⟨some 36, .load false 1 (.t 35), none, [3]⟩,
  ⟨some 37, .move (.t 6), none, []⟩,
  ⟨some 38, .indexAddr 3 none (.t 36) (.t 37), none, [4, 5]⟩,
  ⟨some 39, .load true 3 (.t 38), none, [6]⟩,
  ⟨some 40, .call true (.c (.fn 152 [])) [.t 34, .t 39], none, [2, 7]⟩,
  ⟨some 41, .buildSlice 3 (.agg [.int .i64 0, .int .i64 0, .sl .nil []]) 1 [(0, .t 40)], none, [8]⟩,
  ⟨some 42, .append 3 40 (.t 33) (.t 41), none, [1, 8, 9]⟩,
  ⟨some 43, .fieldAddr 2 (.t 5), none, [0, 1, 2, 3, 4, 5, 6, 7, 8, 9, 10]⟩,
  ⟨none, .store false 1 (.t 43) (.t 42), none, [0, 1, 2, 3, 4, 5, 6, 7, 8, 9, 10, 11]⟩]
def r152_6 : List VOper := [
  ⟨some 30, .move (.t 6), none, []⟩,
  ⟨some 31, .bin .add (.t 30) (.c (.d (.int .i64 1))), none, []⟩,
  ⟨some 6, .move (.t 31), none, []⟩]
def b152_0 : VCode := (.seq (.seq (.region false 0 [0, 3, 4, 5, 6, 29] r152_5) (.cond (.t 29) .skip (.exit 0))) (.seq (.block 1 (.region true 0 [0, 3, 4, 5, 6] r152_7)) (.region false 0 [0, 3, 4, 5, 6] r152_6)))
def r152_8 : List VOper := [
  ⟨some 44, .load true 3 (.t 5), none, []⟩,
  ⟨none, .store false 3 (.t 4) (.t 44), none, []⟩]
def v152 : VFn := ⟨2, [.cell 4 true 3], (.seq (.region false 2 [0, 3, 4] r152_0) (.seq (.seq (.region false 0 [0, 3, 4, 15] r152_1) (.cond (.t 15) (.seq (.region false 0 [4] r152_2) .ret) .skip)) (.seq (.region false 1 [0, 3, 4, 5] r152_3) (.seq (.seq (.region false 0 [0, 3, 4, 5, 6] r152_4) (.block 0 (.loop [0, 3, 4, 5, 6] b152_0))) (.seq (.region false 0 [4] r152_8) .ret)))))⟩
/-! loop.example/g00461/spec.Norm -/
def r153_0 : List VOper := [
  ⟨some 3, .box 0 (.t 1), none, []⟩,
  ⟨some 4, .alloc 1 [.int .i64 0, .int .i64 0, .sl .nil []], none, []⟩]
def r153_1 : List VOper := [
  ⟨some 9, .fieldAddr 0 (.t 3), none, []⟩,
  ⟨some 10, .load false 1 (.t 9), none, []⟩,
  ⟨some 11, .fieldAddr 1 (.t 3), none, []⟩,
  ⟨some 12, .load false 1 (.t 11), none, []⟩,
  ⟨some 13, .build [.int .i64 0, .int .i64 0, .sl .nil []] [(0, 1, .t 10), (1, 1, .t 12)], none, []⟩,
  ⟨some 5, .alloc 0 [.int .i64 0, .int .i64 0, .sl .nil []], none, []⟩,
  ⟨none, .store false 3 (.t 5) (.t 13), none, []⟩]
def r153_2 : List VOper := [
  ⟨some 6, .move (.c (.d (.int .i64 0))), none, []⟩]
def r153_3 : List VOper := [
  ⟨some 14, .move (.t 6), none, []⟩,
  ⟨some 15, .fieldAddr 2 (.t 3), none, []⟩,
  ⟨some 16, .load false 1 (.t 15), none, []⟩,
  ⟨some 17, .len false (.t 16), none, []⟩,
  ⟨some 18, .bin .lss (.t 14) (.t 17), none, []⟩]
def r153_5 : List VOper := [
  ⟨some 21, .move (.t 0), none, []⟩,
  ⟨some 22, .fieldAddr 2 (.t 3), none, []⟩,
  ⟨some 23, .load false 1 (.t 22), none, []⟩,
  ⟨some 24, .move (.t 6), none, []⟩,
  ⟨some 25, .indexAddr 3 none (.t 23) (.t 24), none, []⟩,
  ⟨some 26, .load true 3 (.t 25), none, []⟩,
  ⟨some 27, .call true (.c (.fn 153 [])) [.t 21, .t 26], none, []⟩,
  ⟨some 7, .alloc 0 [.int .i64 0, .int .i64 0, .sl .nil []], none, []⟩,
  ⟨none, .store false 3 (.t 7) (.t 27), none, []⟩]
def r153_10 : List VOper := [
  ⟨some 45, .move (.t 0), none, []⟩,
  ⟨some 46, .fieldAddr 0 (.t 3), none, []⟩,
  ⟨some 47, .load false 1 (.t 46), none, []⟩,
  ⟨some 48, .call true (.c (.fn 33 [])) [.t 45, .t 47], none, []⟩,
  ⟨some 49, .not (.t 48), none, []⟩,
  ⟨some 44, .move (.t 49), none, []⟩]
def r153_11 : List VOper := [
  ⟨some 50, .fieldAddr 2 (.t 5), none, []⟩,
  ⟨some 51, .load false 1 (.t 50), none, []⟩,
  ⟨some 52, .load true 3 (.t 7), none, []⟩,
  ⟨some 53, .buildSlice 3 (.agg [.int .i64 0, .int .i64 0, .sl .nil []]) 1 [(0, .t 52)], none, []⟩,
  ⟨some 54, .append 3 40 (.t 51) (.t 53), none, []⟩,
  ⟨some 55, .fieldAddr 2 (.t 5), none, []⟩,
  ⟨none, .store false 1 (.t 55) (.t 54), none, []⟩]
def r153_12 : List VOper := [
  ⟨some 57, .fieldAddr 0 (.t 7), none, []⟩,
  ⟨some 58, .load false 1 (.t 57), none, []⟩,
  ⟨some 59, .fieldAddr 0 (.t 3), none, []⟩,
  ⟨some 60, .load false 1 (.t 59), none, []⟩,
  ⟨some 61, .bin .neq (.t 58) (.t 60), none, []⟩,
  ⟨some 56, .move (.t 61), none, []⟩]
def r153_13 : List VOper := [
  ⟨some 62, .fieldAddr 2 (.t 5), none, []⟩,
  ⟨some 63, .load false 1 (.t 62), none, []⟩,
  ⟨some 64, .load true 3 (.t 7), none, []⟩,
  ⟨some 65, .call true (.c (.fn 154 [])) [.t 63, .t 64], none, []⟩,
  ⟨some 66, .fieldAddr 2 (.t 5), none, []⟩,
  ⟨none, .store false 1 (.t 66) (.t 65), none, []⟩]
def r153_6 : List VOper := [
  ⟨some 8, .move (.c (.d (.int .i64 0))), none, []⟩]
def r153_7 : List VOper := [
  ⟨some 28, .move (.t 8), none, []⟩,
  ⟨some 29, .fieldAddr 2 (.t 7), none, []⟩,
  ⟨some 30, .load false 1 (.t 29), none, []⟩,
  ⟨some 31, .len false (.t 30), none, []⟩,
  ⟨some 32, .bin .lss (.t 28) (.t 31), none, []⟩]
def r153_9 : List VOper := [
  ⟨some 35, .fieldAddr 2 (.t 5), none, []⟩,
  ⟨some 36, .load false 1 (.t 35), none, [0]⟩,
  ⟨some 37, .fieldAddr 2 (.t 7), none, []⟩,
  ⟨some 38, .load false 1 (.t 37), none, [2]⟩,
  ⟨some 39, .move (.t 8), none, []⟩,
  ⟨some 40, .indexAddr 3 none (.t 38) (.t 39), none, [3, 4]⟩,
  ⟨some 41, .load true 3 (.t 40), none, [5]⟩,
  ⟨some 42, .call true (.c (.fn 154 [])) [.t 36, .t 41], none, [1, 6]⟩,
  ⟨some 43, .fieldAddr 2 (.t 5), none, [0, 1, 2, 3, 4, 5, 6, 7]⟩,
  ⟨none, .store false 1 (.t 43) (.t 42), none, [0, 1, 2, 3, 4, 5, 6, 7, 8]⟩]
def r153_8 : List VOper := [
  ⟨some 33, .move (.t 8), none, []⟩,
  ⟨some 34, .bin .add (.t 33) (.c (.d (.int .i64 1))), none, []⟩,
  ⟨some 8, .move (.t 34), none, []⟩]
def b153_1 : VCode := (.seq (.seq (.region false 0 [0, 3, 4, 5, 6, 7, 8, 32] r153_7) (.cond (.t 32) .skip (.exit 3))) (.seq (.block 4 (.region true 0 [0, 3, 4, 5, 6, 7, 8] r153_9)) (.region false 0 [0, 3, 4, 5, 6, 7, 8] r153_8)))
def r153_4 : List VOper := [
  ⟨some 19, .move (.t 6), none, []⟩,
  ⟨some 20, .bin .add (.t 19) (.c (.d (.int .i64 1))), none, []⟩,
  ⟨some 6, .move (.t 20), none, []⟩]
def b153_0 : VCode := (.seq (.seq (.region false 0 [0, 3, 4, 5, 6, 18] r153_3) (.cond (.t 18) .skip (.exit 0))) (.seq (.block 1 (.seq (.region false 1 [0, 3, 4, 5, 6, 7] r153_5) (.block 2 (.seq (.region false 0 [0, 3, 4, 5, 6, 7, 44] r153_10) (.cond (.t 44) (.region false 0 [0, 3, 4, 5, 6] r153_11) (.seq (.region false 0 [0, 3, 4, 5, 6, 7, 56] r153_12) (.cond (.t 56) (.region false 0 [0, 3, 4, 5, 6] r153_13) (.seq (.region false 0 [0, 3, 4, 5, 6, 7, 8] r153_6) (.block 3 (.loop [0, 3, 4, 5, 6, 7, 8] b153_1)))))))))) (.region false 0 [0, 3, 4, 5, 6] r153_4)))
def r153_14 : List VOper := [
  ⟨some 67, .load true 3 (.t 5), none, []⟩,
  ⟨none, .store false 3 (.t 4) (.t 67), none, []⟩]
def v153 : VFn := ⟨2, [.cell 4 true 3], (.seq (.region false 2 [0, 3, 4] r153_0) (.seq (.region false 1 [0, 3, 4, 5] r153_1) (.seq (.seq (.region false 0 [0, 3, 4, 5, 6] r153_2) (.block 0 (.loop [0, 3, 4, 5, 6] b153_0))) (.seq (.region false 0 [4] r153_14) .ret))))⟩
/-! loop.example/g00461/spec.l4Put -/
def r154_0 : List VOper := [
  ⟨some 3, .box 0 (.t 1), none, []⟩,
  ⟨some 4, .move (.c (.d (.sl .nil []))), none, []⟩]
def r154_1 : List VOper := [
  ⟨some 5, .move (.c (.d (.int .i64 0))), none, []⟩]
def r154_2 : List VOper := [
  ⟨some 7, .move (.t 5), none, []⟩,
  ⟨some 8, .move (.t 0), none, []⟩,
  ⟨some 9, .len false (.t 8), none, [1]⟩,
  ⟨some 10, .bin .lss (.t 7) (.t 9), none, [0, 2]⟩,
  ⟨some 11, .move (.t 10), none, [3]⟩,
  ⟨some 12, .load true 3 (.t 3), some (11, true), [4]⟩,
  ⟨some 13, .move (.t 0), some (11, true), [4]⟩,
  ⟨some 14, .move (.t 5), some (11, true), [4]⟩,
  ⟨some 15, .indexAddr 3 none (.t 13) (.t 14), some (11, true), [4, 6, 7]⟩,
  ⟨some 16, .load true 3 (.t 15), some (11, true), [4, 8]⟩,
  ⟨some 17, .call true (.c (.fn 84 [])) [.t 12, .t 16], some (11, true), [4, 5, 9]⟩,
  ⟨some 18, .not (.t 17), some (11, true), [4, 10]⟩,
  ⟨some 19, .pick (.t 11) (.t 18) (.c (.d (.bool false))), none, [4, 11]⟩]
def r154_3 : List VOper := [
  ⟨some 20, .move (.t 5), none, []⟩,
  ⟨some 21, .bin .add (.t 20) (.c (.d (.int .i64 1))), none, []⟩,
  ⟨some 5, .move (.t 21), none, []⟩]
def b154_0 : VCode := (.seq (.seq (.region true 0 [0, 3, 5, 19] r154_2) (.cond (.t 19) .skip (.exit 0))) (.block 1 (.region false 0 [0, 3, 5] r154_3)))
def r154_4 : List VOper := [
  ⟨some 22, .buildSlice 3 (.agg [.int .i64 0, .int .i64 0, .sl .nil []]) 0 [], none, []⟩,
  ⟨some 23, .move (.t 0), none, []⟩,
  ⟨some 24, .move (.t 5), none, []⟩,
  ⟨some 25, .slice false 3 (.t 23) none (some (.t 24)), none, []⟩,
  ⟨some 26, .append 3 40 (.t 22) (.t 25), none, []⟩,
  ⟨some 6, .move (.t 26), none, []⟩]
def r154_5 : List VOper := [
  ⟨some 27, .move (.t 6), none, []⟩,
  ⟨some 28, .load true 3 (.t 3), none, []⟩,
  ⟨some 29, .buildSlice 3 (.agg [.int .i64 0, .int .i64 0, .sl .nil []]) 1 [(0, .t 28)], none, []⟩,
  ⟨some 30, .append 3 40 (.t 27) (.t 29), none, []⟩,
  ⟨some 6, .move (.t 30), none, []⟩]
def r154_6 : List VOper := [
  ⟨some 31, .move (.t 6), none, []⟩,
  ⟨some 32, .move (.t 0), none, []⟩,
  ⟨some 33, .move (.t 5), none, []⟩,
  ⟨some 34, .slice false 3 (.t 32) (some (.t 33)) none, none, []⟩,
  ⟨some 35, .append 3 40 (.t 31) (.t 34), none, []⟩,
  ⟨some 4, .move (.t 35), none, []⟩]
def v154 : VFn := ⟨2, [.tmp 4], (.seq (.region false 1 [0, 3] r154_0) (.seq (.region false 0 [0, 3, 5] r154_1) (.seq (.block 0 (.loop [0, 3, 5] b154_0)) (.seq (.region false 0 [0, 3, 5, 6] r154_4) (.seq (.region false 0 [0, 5, 6] r154_5) (.seq (.region false 0 [4] r154_6) .ret))))))⟩
/-! loop.example/g00461/impl.SubAdd$1 -/
def r167_0 : List VOper := [
  ⟨some 2, .box 0 (.t 0), none, []⟩,
  ⟨some 3, .move (.c (.d (.bool false))), none, []⟩]
def r167_1 : List VOper := [
  ⟨some 4, .fieldAddr 0 (.t 2), none, []⟩,
  ⟨some 5, .load false 1 (.t 4), none, []⟩,
  ⟨some 6, .load false 1 (.t 1), none, []⟩,
  ⟨some 7, .bin .geq (.t 5) (.t 6), none, []⟩,
  ⟨some 3, .move (.t 7), none, []⟩]
def v167 : VFn := ⟨2, [.tmp 3], (.seq (.region false 1 [1, 2] r167_0) (.seq (.region false 0 [3] r167_1) .ret))⟩
/-! loop.example/g00461/impl.filled -/
def r168_0 : List VOper := [
  ⟨some 3, .box 0 (.t 1), none, []⟩,
  ⟨some 4, .alloc 1 [.int .i64 0, .int .i64 0, .sl .nil []], none, []⟩]
def r168_1 : List VOper := [
  ⟨some 8, .load true 3 (.t 3), none, []⟩,
  ⟨some 9, .call true (.c (.fn 75 [])) [.t 8], none, []⟩,
  ⟨some 10, .move (.t 9), none, []⟩,
  ⟨some 11, .fieldAddr 2 (.t 3), some (10, true), []⟩,
  ⟨some 12, .load false 1 (.t 11), some (10, true), []⟩,
  ⟨some 13, .len false (.t 12), some (10, true), []⟩,
  ⟨some 14, .bin .eql (.t 13) (.c (.d (.int .i64 0))), some (10, true), []⟩,
  ⟨some 15, .pick (.t 10) (.t 14) (.c (.d (.bool false))), none, []⟩]
def r168_2 : List VOper := [
  ⟨some 16, .move (.t 0), none, []⟩,
  ⟨some 17, .fieldAddr 1 (.t 3), none, []⟩,
  ⟨some 18, .load false 1 (.t 17), none, []⟩,
  ⟨some 19, .call true (.c (.fn 144 [])) [.t 16, .t 18], none, []⟩,
  ⟨none, .store false 3 (.t 4) (.t 19), none, []⟩]
def r168_3 : List VOper := [
  ⟨some 20, .buildSlice 3 (.agg [.int .i64 0, .int .i64 0, .sl .nil []]) 0 [], none, []⟩,
  ⟨some 5, .move (.t 20), none, []⟩]
def r168_4 : List VOper := [
  ⟨some 21, .fieldAddr 2 (.t 3), none, []⟩,
  ⟨some 22, .load false 1 (.t 21), none, []⟩,
  ⟨some 23, .len false (.t 22), none, []⟩,
  ⟨some 24, .move (.c (.d (.int .i64 0))), none, []⟩]
def r168_5 : List VOper := [
  ⟨some 25, .bin .lss (.t 24) (.t 23), none, []⟩]
def r168_6 : List VOper := [
  ⟨some 26, .indexAddr 3 none (.t 22) (.t 24), none, []⟩,
  ⟨some 27, .load true 3 (.t 26), none, []⟩,
  ⟨some 7, .alloc 0 [.int .i64 0, .int .i64 0, .sl .nil []], none, []⟩,
  ⟨none, .store false 3 (.t 7) (.t 27), none, []⟩]
def r168_7 : List VOper := [
  ⟨some 28, .move (.t 5), none, []⟩,
  ⟨some 29, .move (.t 0), none, []⟩,
  ⟨some 30, .load true 3 (.t 7), none, []⟩,
  ⟨some 31, .call true (.c (.fn 168 [])) [.t 29, .t 30], none, []⟩,
  ⟨some 32, .buildSlice 3 (.agg [.int .i64 0, .int .i64 0, .sl .nil []]) 1 [(0, .t 31)], none, []⟩,
  ⟨some 33, .append 3 40 (.t 28) (.t 32), none, []⟩,
  ⟨some 5, .move (.t 33), none, []⟩]
def r168_8 : List VOper := [
  ⟨some 34, .bin .add (.t 24) (.c (.d (.int .i64 1))), none, []⟩,
  ⟨some 24, .move (.t 34), none, []⟩]
def b168_0 : VCode := (.seq (.region false 0 [0, 3, 4, 5, 22, 23, 24, 25] r168_5) (.seq (.cond (.t 25) .skip (.exit 0)) (.seq (.block 1 (.seq (.region false 1 [0, 3, 4, 5, 7, 22, 23, 24] r168_6) (.region false 0 [0, 3, 4, 5, 22, 23, 24] r168_7))) (.region false 0 [0, 3, 4, 5, 22, 23, 24] r168_8))))
def r168_9 : List VOper := [
  ⟨some 35, .move (.t 5), none, []⟩,
  ⟨some 36, .fieldAddr 2 (.t 3), none, []⟩,
  ⟨none, .store false 1 (.t 36) (.t 35), none, []⟩]
def r168_10 : List VOper := [
  ⟨some 37, .load true 3 (.t 3), none, []⟩,
  ⟨none, .store false 3 (.t 4) (.t 37), none, []⟩]
def v168 : VFn := ⟨2, [.cell 4 true 3], (.seq (.region false 2 [0, 3, 4] r168_0) (.seq (.seq (.region false 0 [0, 3, 4, 15] r168_1) (.cond (.t 15) (.seq (.region false 0 [4] r168_2) .ret) .skip)) (.seq (.region false 0 [0, 3, 4, 5] r168_3) (.seq (.seq (.region false 0 [0, 3, 4, 5, 22, 23, 24] r168_4) (.block 0 (.loop [0, 3, 4, 5, 22, 23, 24] b168_0))) (.seq (.region false 0 [3, 4] r168_9) (.seq (.region false 0 [4] r168_10) .ret))))))⟩
/-! loop.example/g00461/impl.Norm -/
def r169_0 : List VOper := [
  ⟨some 3, .box 0 (.t 1), none, []⟩,
  ⟨some 4, .alloc 1 [.int .i64 0, .int .i64 0, .sl .nil []], none, []⟩]
def r169_1 : List VOper := [
  ⟨some 8, .buildSlice 3 (.agg [.int .i64 0, .int .i64 0, .sl .nil []]) 0 [], none, []⟩,
  ⟨some 5, .move (.t 8), none, []⟩]
def r169_2 : List VOper := [
  ⟨some 9, .fieldAddr 2 (.t 3), none, []⟩,
  ⟨some 10, .load false 1 (.t 9), none, []⟩,
  ⟨some 11, .len false (.t 10), none, []⟩,
  ⟨some 12, .move (.c (.d (.int .i64 0))), none, []⟩]
def r169_3 : List VOper := [
  ⟨some 13, .bin .lss (.t 12) (.t 11), none, []⟩]
def r169_4 : List VOper := [
  ⟨some 14, .indexAddr 3 none (.t 10) (.t 12), none, []⟩,
  ⟨some 15, .load true 3 (.t 14), none, []⟩,
  ⟨some 7, .alloc 0 [.int .i64 0, .int .i64 0, .sl .nil []], none, []⟩,
  ⟨none, .store false 3 (.t 7) (.t 15), none, []⟩]
def r169_5 : List VOper := [
  ⟨some 16, .move (.t 0), none, []⟩,
  ⟨some 17, .load true 3 (.t 7), none, []⟩,
  ⟨some 18, .call true (.c (.fn 169 [])) [.t 16, .t 17], none, []⟩,
  ⟨none, .store false 3 (.t 7) (.t 18), none, []⟩]
def r169_6 : List VOper := [
  ⟨some 19, .move (.t 0), none, []⟩,
  ⟨some 20, .fieldAddr 0 (.t 3), none, []⟩,
  ⟨some 21, .load false 1 (.t 20), none, []⟩,
  ⟨some 22, .call true (.c (.fn 34 [])) [.t 19, .t 21], none, []⟩,
  ⟨some 23, .move (.t 22), none, []⟩,
  ⟨some 24, .fieldAddr 0 (.t 7), some (23, true), []⟩,
  ⟨some 25, .load false 1 (.t 24), some (23, true), []⟩,
  ⟨some 26, .fieldAddr 0 (.t 3), some (23, true), []⟩,
  ⟨some 27, .load false 1 (.t 26), some (23, true), []⟩,
  ⟨some 28, .bin .eql (.t 25) (.t 27), some (23, true), []⟩,
  ⟨some 29, .pick (.t 23) (.t 28) (.c (.d (.bool false))), none, []⟩]
def r169_7 : List VOper := [
  ⟨some 30, .move (.t 5), none, []⟩,
  ⟨some 31, .fieldAddr 2 (.t 7), none, []⟩,
  ⟨some 32, .load false 1 (.t 31), none, []⟩,
  ⟨some 33, .append 3 40 (.t 30) (.t 32), none, []⟩,
  ⟨some 5, .move (.t 33), none, []⟩]
def r169_8 : List VOper := [
  ⟨some 34, .move (.t 5), none, []⟩,
  ⟨some 35, .load true 3 (.t 7), none, []⟩,
  ⟨some 36, .buildSlice 3 (.agg [.int .i64 0, .int .i64 0, .sl .nil []]) 1 [(0, .t 35)], none, []⟩,
  ⟨some 37, .append 3 40 (.t 34) (.t 36), none, []⟩,
  ⟨some 5, .move (.t 37), none, []⟩]
def r169_9 : List VOper := [
  ⟨some 38, .bin .add (.t 12) (.c (.d (.int .i64 1))), none, []⟩,
  ⟨some 12, .move (.t 38), none, []⟩]
def b169_0 : VCode := (.seq (.region false 0 [0, 3, 4, 5, 10, 11, 12, 13] r169_3) (.seq (.cond (.t 13) .skip (.exit 0)) (.seq (.block 1 (.seq (.region false 1 [0, 3, 4, 5, 7, 10, 11, 12] r169_4) (.seq (.region false 0 [0, 3, 4, 5, 7, 10, 11, 12] r169_5) (.seq (.region false 0 [0, 3, 4, 5, 7, 10, 11, 12, 29] r169_6) (.cond (.t 29) (.region false 0 [0, 3, 4, 5, 10, 11, 12] r169_7) (.region false 0 [0, 3, 4, 5, 10, 11, 12] r169_8)))))) (.region false 0 [0, 3, 4, 5, 10, 11, 12] r169_9))))
def r169_10 : List VOper := [
  ⟨some 39, .move (.t 0), none, []⟩,
  ⟨some 40, .fieldAddr 0 (.t 3), none, []⟩,
  ⟨some 41, .load false 1 (.t 40), none, []⟩,
  ⟨some 42, .call true (.c (.fn 34 [])) [.t 39, .t 41], none, []⟩]
def r169_11 : List VOper := [
  ⟨some 43, .move (.t 5), none, []⟩,
  ⟨some 44, .call false (.c (.fn 170 [])) [.t 43, .c (.fn 6 [])], none, []⟩]
def r169_12 : List VOper := [
  ⟨some 45, .move (.t 5), none, []⟩,
  ⟨some 46, .fieldAddr 2 (.t 3), none, []⟩,
  ⟨none, .store false 1 (.t 46) (.t 45), none, []⟩]
def r169_13 : List VOper := [
  ⟨some 47, .load true 3 (.t 3), none, []⟩,
  ⟨none, .store false 3 (.t 4) (.t 47), none, []⟩]
def v169 : VFn := ⟨2, [.cell 4 true 3], (.seq (.region false 2 [0, 3, 4] r169_0) (.seq (.region false 0 [0, 3, 4, 5] r169_1) (.seq (.seq (.region false 0 [0, 3, 4, 5, 10, 11, 12] r169_2) (.block 0 (.loop [0, 3, 4, 5, 10, 11, 12] b169_0))) (.seq (.seq (.region false 0 [3, 4, 5, 42] r169_10) (.cond (.t 42) (.region false 0 [3, 4, 5] r169_11) .skip)) (.seq (.region false 0 [3, 4] r169_12) (.seq (.region false 0 [4] r169_13) .ret))))))⟩
/-! slices.SortStableFunc[[]loop.example/g00461/impl.Term,loop.example/g00461/impl.Term] -/
def r170_0 : List VOper := [
  ⟨some 4, .move (.t 0), none, []⟩,
  ⟨some 5, .move (.t 0), none, []⟩,
  ⟨some 6, .len false (.t 5), none, []⟩,
  ⟨some 7, .move (.t 1), none, []⟩,
  ⟨some 8, .call false (.c (.fn 171 [])) [.t 4, .t 6, .t 7], none, []⟩]
def v170 : VFn := ⟨2, [], (.region false 0 [] r170_0)⟩
/-! slices.stableCmpFunc[loop.example/g00461/impl.Term] -/
def r171_0 : List VOper := [
  ⟨some 6, .move (.c (.d (.int .i64 20))), none, []⟩]
def r171_1 : List VOper := [
  ⟨some 10, .move (.t 6), none, []⟩,
  ⟨some 7, .move (.c (.d (.int .i64 0))), none, []⟩,
  ⟨some 8, .move (.t 10), none, []⟩]
def r171_2 : List VOper := [
  ⟨some 11, .move (.t 8), none, []⟩,
  ⟨some 12, .move (.t 1), none, []⟩,
  ⟨some 13, .bin .leq (.t 11) (.t 12), none, []⟩]
def r171_3 : List VOper := [
  ⟨some 14, .move (.t 0), none, []⟩,
  ⟨some 15, .move (.t 7), none, []⟩,
  ⟨some 16, .move (.t 8), none, []⟩,
  ⟨some 17, .move (.t 2), none, []⟩,
  ⟨some 18, .call false (.c (.fn 172 [])) [.t 14, .t 15, .t 16, .t 17], none, []⟩]
def r171_4 : List VOper := [
  ⟨some 19, .move (.t 8), none, []⟩,
  ⟨some 7, .move (.t 19), none, []⟩]
def r171_5 : List VOper := [
  ⟨some 20, .move (.t 8), none, []⟩,
  ⟨some 21, .move (.t 6), none, []⟩,
  ⟨some 22, .bin .add (.t 20) (.t 21), none, []⟩,
  ⟨some 8, .move (.t 22), none, []⟩]
def b171_0 : VCode := (.seq (.seq (.region false 0 [0, 1, 2, 6, 7, 8, 13] r171_2) (.cond (.t 13) .skip (.exit 0))) (.block 1 (.seq (.region false 0 [0, 1, 2, 6, 8] r171_3) (.seq (.region false 0 [0, 1, 2, 6, 7, 8] r171_4) (.region false 0 [0, 1, 2, 6, 7, 8] r171_5)))))
def r171_6 : List VOper := [
  ⟨some 23, .move (.t 0), none, []⟩,
  ⟨some 24, .move (.t 7), none, []⟩,
  ⟨some 25, .move (.t 1), none, []⟩,
  ⟨some 26, .move (.t 2), none, []⟩,
  ⟨some 27, .call false (.c (.fn 172 [])) [.t 23, .t 24, .t 25, .t 26], none, []⟩]
def r171_7 : List VOper := [
  ⟨some 28, .move (.t 6), none, []⟩,
  ⟨some 29, .move (.t 1), none, []⟩,
  ⟨some 30, .bin .lss (.t 28) (.t 29), none, []⟩]
def r171_8 : List VOper := [
  ⟨some 31, .move (.t 6), none, []⟩,
  ⟨some 32, .bin .mul (.c (.d (.int .i64 2))) (.t 31), none, []⟩,
  ⟨some 7, .move (.c (.d (.int .i64 0))), none, []⟩,
  ⟨some 8, .move (.t 32), none, []⟩]
def r171_9 : List VOper := [
  ⟨some 33, .move (.t 8), none, []⟩,
  ⟨some 34, .move (.t 1), none, []⟩,
  ⟨some 35, .bin .leq (.t 33) (.t 34), none, []⟩]
def r171_10 : List VOper := [
  ⟨some 36, .move (.t 0), none, []⟩,
  ⟨some 37, .move (.t 7), none, []⟩,
  ⟨some 38, .move (.t 7), none, []⟩,
  ⟨some 39, .move (.t 6), none, []⟩,
  ⟨some 40, .bin .add (.t 38) (.t 39), none, []⟩,
  ⟨some 41, .move (.t 8), none, []⟩,
  ⟨some 42, .move (.t 2), none, []⟩,
  ⟨some 43, .call false (.c (.fn 173 [])) [.t 36, .t 37, .t 40, .t 41, .t 42], none, []⟩]
def r171_11 : List VOper := [
  ⟨some 44, .move (.t 8), none, []⟩,
  ⟨some 7, .move (.t 44), none, []⟩]
def r171_12 : List VOper := [
  ⟨some 45, .move (.t 8), none, []⟩,
  ⟨some 46, .move (.t 6), none, []⟩,
  ⟨some 47, .bin .mul (.c (.d (.int .i64 2))) (.t 46), none, []⟩,
  ⟨some 48, .bin .add (.t 45) (.t 47), none, []⟩,
  ⟨some 8, .move (.t 48), none, []⟩]
def b171_2 : VCode := (.seq (.seq (.region false 0 [0, 1, 2, 6, 7, 8, 35] r171_9) (.cond (.t 35) .skip (.exit 4))) (.block 5 (.seq (.region false 0 [0, 1, 2, 6, 8] r171_10) (.seq (.region false 0 [0, 1, 2, 6, 7, 8] r171_11) (.region false 0 [0, 1, 2, 6, 7, 8] r171_12)))))
def r171_13 : List VOper := [
  ⟨some 49, .move (.t 7), none, []⟩,
  ⟨some 50, .move (.t 6), none, []⟩,
  ⟨some 51, .bin .add (.t 49) (.t 50), none, []⟩,
  ⟨some 9, .move (.t 51), none, []⟩]
def r171_14 : List VOper := [
  ⟨some 52, .move (.t 9), none, []⟩,
  ⟨some 53, .move (.t 1), none, []⟩,
  ⟨some 54, .bin .lss (.t 52) (.t 53), none, []⟩]
def r171_15 : List VOper := [
  ⟨some 55, .move (.t 0), none, []⟩,
  ⟨some 56, .move (.t 7), none, []⟩,
  ⟨some 57, .move (.t 9), none, []⟩,
  ⟨some 58, .move (.t 1), none, []⟩,
  ⟨some 59, .move (.t 2), none, []⟩,
  ⟨some 60, .call false (.c (.fn 173 [])) [.t 55, .t 56, .t 57, .t 58, .t 59], none, []⟩]
def r171_16 : List VOper := [
  ⟨some 61, .move (.t 6), none, []⟩,
  ⟨some 62, .bin .mul (.t 61) (.c (.d (.int .i64 2))), none, []⟩,
  ⟨some 6, .move (.t 62), none, []⟩]
def b171_1 : VCode := (.seq (.seq (.region false 0 [0, 1, 2, 6, 30] r171_7) (.cond (.t 30) .skip (.exit 2))) (.block 3 (.seq (.region false 0 [0, 1, 2, 6, 7, 8] r171_8) (.seq (.block 4 (.loop [0, 1, 2, 6, 7, 8] b171_2)) (.seq (.seq (.region false 0 [0, 1, 2, 6, 7, 9] r171_13) (.seq (.region false 0 [0, 1, 2, 6, 7, 9, 54] r171_14) (.cond (.t 54) (.region false 0 [0, 1, 2, 6] r171_15) .skip))) (.region false 0 [0, 1, 2, 6] r171_16))))))
def v171 : VFn := ⟨3, [], (.seq (.region false 0 [0, 1, 2, 6] r171_0) (.seq (.region false 0 [0, 1, 2, 6, 7, 8] r171_1) (.seq (.block 0 (.loop [0, 1, 2, 6, 7, 8] b171_0)) (.seq (.region false 0 [0, 1, 2, 6] r171_6) (.block 2 (.loop [0, 1, 2, 6] b171_1))))))⟩
/-! slices.insertionSortCmpFunc[loop.example/g00461/impl.Term] -/
def r172_0 : List VOper := [
  ⟨some 10, .move (.t 1), none, []⟩,
  ⟨some 11, .bin .add (.t 10) (.c (.d (.int .i64 1))), none, []⟩,
  ⟨some 8, .move (.t 11), none, []⟩]
def r172_1 : List VOper := [
  ⟨some 12, .move (.t 8), none, []⟩,
  ⟨some 13, .move (.t 2), none, []⟩,
  ⟨some 14, .bin .lss (.t 12) (.t 13), none, []⟩]
def r172_3 : List VOper := [
  ⟨some 17, .move (.t 8), none, []⟩,
  ⟨some 9, .move (.t 17), none, []⟩]
def r172_4 : List VOper := [
  ⟨some 18, .move (.t 9), none, []⟩,
  ⟨some 19, .move (.t 1), none, []⟩,
  ⟨some 20, .bin .gtr (.t 18) (.t 19), none, [0, 1]⟩,
  ⟨some 21, .move (.t 20), none, [2]⟩,
  ⟨some 22, .move (.t 3), some (21, true), [3]⟩,
  ⟨some 23, .move (.t 0), some (21, true), [3]⟩,
  ⟨some 24, .move (.t 9), some (21, true), [3]⟩,
  ⟨some 25, .indexAddr 3 none (.t 23) (.t 24), some (21, true), [3, 5, 6]⟩,
  ⟨some 26, .load true 3 (.t 25), some (21, true), [3, 7]⟩,
  ⟨some 27, .move (.t 0), some (21, true), [3]⟩,
  ⟨some 28, .move (.t 9), some (21, true), [3]⟩,
  ⟨some 29, .bin .sub (.t 28) (.c (.d (.int .i64 1))), some (21, true), [3, 10]⟩,
  ⟨some 30, .indexAddr 3 none (.t 27) (.t 29), some (21, true), [3, 9, 11]⟩,
  ⟨some 31, .load true 3 (.t 30), some (21, true), [3, 12]⟩,
  ⟨some 32, .call false (.t 22) [.t 26, .t 31], some (21, true), [3, 4, 8, 13]⟩,
  ⟨some 33, .bin .lss (.t 32) (.c (.d (.int .i64 0))), some (21, true), [3, 14]⟩,
  ⟨some 34, .pick (.t 21) (.t 33) (.c (.d (.bool false))), none, [3, 15]⟩]
def r172_6 : List VOper := [
  ⟨some 37, .move (.t 0), none, []⟩,
  ⟨some 38, .move (.t 9), none, []⟩,
  ⟨some 39, .move (.t 0), none, []⟩,
  ⟨some 40, .move (.t 9), none, []⟩,
  ⟨some 41, .bin .sub (.t 40) (.c (.d (.int .i64 1))), none, [3]⟩,
  ⟨some 42, .move (.t 0), none, []⟩,
  ⟨some 43, .move (.t 9), none, []⟩,
  ⟨some 44, .bin .sub (.t 43) (.c (.d (.int .i64 1))), none, [6]⟩,
  ⟨some 45, .indexAddr 3 none (.t 42) (.t 44), none, [5, 7]⟩,
  ⟨some 46, .load true 3 (.t 45), none, [8]⟩,
  ⟨some 47, .move (.t 0), none, []⟩,
  ⟨some 48, .move (.t 9), none, []⟩,
  ⟨some 49, .indexAddr 3 none (.t 47) (.t 48), none, [10, 11]⟩,
  ⟨some 50, .load true 3 (.t 49), none, [12]⟩,
  ⟨some 51, .indexAddr 3 none (.t 37) (.t 38), none, [0, 1, 5, 6, 7, 8, 9, 13]⟩,
  ⟨none, .store false 3 (.t 51) (.t 46), none, [0, 1, 5, 6, 7, 8, 9, 13, 14]⟩,
  ⟨some 52, .indexAddr 3 none (.t 39) (.t 41), none, [0, 1, 2, 3, 4, 5, 6, 7, 8, 9, 10, 11, 12, 13, 14, 15]⟩,
  ⟨none, .store false 3 (.t 52) (.t 50), none, [0, 1, 2, 3, 4, 5, 6, 7, 8, 9, 10, 11, 12, 13, 14, 15, 16]⟩]
def r172_5 : List VOper := [
  ⟨some 35, .move (.t 9), none, []⟩,
  ⟨some 36, .bin .sub (.t 35) (.c (.d (.int .i64 1))), none, []⟩,
  ⟨some 9, .move (.t 36), none, []⟩]
def b172_1 : VCode := (.seq (.seq (.region true 0 [0, 1, 2, 3, 8, 9, 34] r172_4) (.cond (.t 34) .skip (.exit 2))) (.seq (.block 3 (.region true 0 [0, 1, 2, 3, 8, 9] r172_6)) (.region false 0 [0, 1, 2, 3, 8, 9] r172_5)))
def r172_2 : List VOper := [
  ⟨some 15, .move (.t 8), none, []⟩,
  ⟨some 16, .bin .add (.t 15) (.c (.d (.int .i64 1))), none, []⟩,
  ⟨some 8, .move (.t 16), none, []⟩]
def b172_0 : VCode := (.seq (.seq (.region false 0 [0, 1, 2, 3, 8, 14] r172_1) (.cond (.t 14) .skip (.exit 0))) (.seq (.block 1 (.seq (.region false 0 [0, 1, 2, 3, 8, 9] r172_3) (.block 2 (.loop [0, 1, 2, 3, 8, 9] b172_1)))) (.region false 0 [0, 1, 2, 3, 8] r172_2)))
def v172 : VFn := ⟨4, [], (.seq (.region false 0 [0, 1, 2, 3, 8] r172_0) (.block 0 (.loop [0, 1, 2, 3, 8] b172_0)))⟩
/-! slices.symMergeCmpFunc[loop.example/g00461/impl.Term] -/
def r173_0 : List VOper := [
  ⟨some 25, .move (.t 2), none, []⟩,
  ⟨some 26, .move (.t 1), none, []⟩,
  ⟨some 27, .bin .sub (.t 25) (.t 26), none, []⟩,
  ⟨some 28, .bin .eql (.t 27) (.c (.d (.int .i64 1))), none, []⟩]
def r173_1 : List VOper := [
  ⟨some 29, .move (.t 2), none, []⟩,
  ⟨some 10, .move (.t 29), none, []⟩]
def r173_2 : List VOper := [
  ⟨some 30, .move (.t 3), none, []⟩,
  ⟨some 11, .move (.t 30), none, []⟩]
def r173_3 : List VOper := [
  ⟨some 31, .move (.t 10), none, []⟩,
  ⟨some 32, .move (.t 11), none, []⟩,
  ⟨some 33, .bin .lss (.t 31) (.t 32), none, []⟩]
def r173_4 : List VOper := [
  ⟨some 34, .move (.t 10), none, []⟩,
  ⟨some 35, .move (.t 11), none, []⟩,
  ⟨some 36, .bin .add (.t 34) (.t 35), none, []⟩,
  ⟨some 37, .conv (.kind .u64) (.t 36), none, []⟩,
  ⟨some 38, .bin .shr (.t 37) (.c (.d (.int .u64 1))), none, []⟩,
  ⟨some 39, .conv (.kind .i64) (.t 38), none, []⟩,
  ⟨some 12, .move (.t 39), none, []⟩]
def r173_5 : List VOper := [
  ⟨some 40, .move (.t 4), none, []⟩,
  ⟨some 41, .move (.t 0), none, []⟩,
  ⟨some 42, .move (.t 12), none, []⟩,
  ⟨some 43, .indexAddr 3 none (.t 41) (.t 42), none, [1, 2]⟩,
  ⟨some 44, .load true 3 (.t 43), none, [3]⟩,
  ⟨some 45, .move (.t 0), none, []⟩,
  ⟨some 46, .move (.t 1), none, []⟩,
  ⟨some 47, .indexAddr 3 none (.t 45) (.t 46), none, [5, 6]⟩,
  ⟨some 48, .load true 3 (.t 47), none, [7]⟩,
  ⟨some 49, .call false (.t 40) [.t 44, .t 48], none, [0, 4, 8]⟩,
  ⟨some 50, .bin .lss (.t 49) (.c (.d (.int .i64 0))), none, [9]⟩]
def r173_6 : List VOper := [
  ⟨some 51, .move (.t 12), none, []⟩,
  ⟨some 52, .bin .add (.t 51) (.c (.d (.int .i64 1))), none, []⟩,
  ⟨some 10, .move (.t 52), none, []⟩]
def r173_7 : List VOper := [
  ⟨some 53, .move (.t 12), none, []⟩,
  ⟨some 11, .move (.t 53), none, []⟩]
def b173_0 : VCode := (.seq (.seq (.region false 0 [0, 1, 4, 10, 11, 33] r173_3) (.cond (.t 33) .skip (.exit 0))) (.block 1 (.seq (.region false 0 [0, 1, 4, 10, 11, 12] r173_4) (.seq (.region true 0 [0, 1, 4, 10, 11, 12, 50] r173_5) (.cond (.t 50) (.region false 0 [0, 1, 4, 10, 11] r173_6) (.region false 0 [0, 1, 4, 10, 11] r173_7))))))
def r173_8 : List VOper := [
  ⟨some 54, .move (.t 1), none, []⟩,
  ⟨some 13, .move (.t 54), none, []⟩]
def r173_9 : List VOper := [
  ⟨some 55, .move (.t 13), none, []⟩,
  ⟨some 56, .move (.t 10), none, []⟩,
  ⟨some 57, .bin .sub (.t 56) (.c (.d (.int .i64 1))), none, []⟩,
  ⟨some 58, .bin .lss (.t 55) (.t 57), none, []⟩]
def r173_11 : List VOper := [
  ⟨some 61, .move (.t 0), none, []⟩,
  ⟨some 62, .move (.t 13), none, []⟩,
  ⟨some 63, .move (.t 0), none, []⟩,
  ⟨some 64, .move (.t 13), none, []⟩,
  ⟨some 65, .bin .add (.t 64) (.c (.d (.int .i64 1))), none, [3]⟩,
  ⟨some 66, .move (.t 0), none, []⟩,
  ⟨some 67, .move (.t 13), none, []⟩,
  ⟨some 68, .bin .add (.t 67) (.c (.d (.int .i64 1))), none, [6]⟩,
  ⟨some 69, .indexAddr 3 none (.t 66) (.t 68), none, [5, 7]⟩,
  ⟨some 70, .load true 3 (.t 69), none, [8]⟩,
  ⟨some 71, .move (.t 0), none, []⟩,
  ⟨some 72, .move (.t 13), none, []⟩,
  ⟨some 73, .indexAddr 3 none (.t 71) (.t 72), none, [10, 11]⟩,
  ⟨some 74, .load true 3 (.t 73), none, [12]⟩,
  ⟨some 75, .indexAddr 3 none (.t 61) (.t 62), none, [0, 1, 5, 6, 7, 8, 9, 13]⟩,
  ⟨none, .store false 3 (.t 75) (.t 70), none, [0, 1, 5, 6, 7, 8, 9, 13, 14]⟩,
  ⟨some 76, .indexAddr 3 none (.t 63) (.t 65), none, [0, 1, 2, 3, 4, 5, 6, 7, 8, 9, 10, 11, 12, 13, 14, 15]⟩,
  ⟨none, .store false 3 (.t 76) (.t 74), none, [0, 1, 2, 3, 4, 5, 6, 7, 8, 9, 10, 11, 12, 13, 14, 15, 16]⟩]
def r173_10 : List VOper := [
  ⟨some 59, .move (.t 13), none, []⟩,
  ⟨some 60, .bin .add (.t 59) (.c (.d (.int .i64 1))), none, []⟩,
  ⟨some 13, .move (.t 60), none, []⟩]
def b173_1 : VCode := (.seq (.seq (.region false 0 [0, 10, 13, 58] r173_9) (.cond (.t 58) .skip (.exit 2))) (.seq (.block 3 (.region true 0 [0, 10, 13] r173_11)) (.region false 0 [0, 10, 13] r173_10)))
def r173_12 : List VOper := [
  ⟨some 77, .move (.t 3), none, []⟩,
  ⟨some 78, .move (.t 2), none, []⟩,
  ⟨some 79, .bin .sub (.t 77) (.t 78), none, []⟩,
  ⟨some 80, .bin .eql (.t 79) (.c (.d (.int .i64 1))), none, []⟩]
def r173_13 : List VOper := [
  ⟨some 81, .move (.t 1), none, []⟩,
  ⟨some 14, .move (.t 81), none, []⟩]
def r173_14 : List VOper := [
  ⟨some 82, .move (.t 2), none, []⟩,
  ⟨some 15, .move (.t 82), none, []⟩]
def r173_15 : List VOper := [
  ⟨some 83, .move (.t 14), none, []⟩,
  ⟨some 84, .move (.t 15), none, []⟩,
  ⟨some 85, .bin .lss (.t 83) (.t 84), none, []⟩]
def r173_16 : List VOper := [
  ⟨some 86, .move (.t 14), none, []⟩,
  ⟨some 87, .move (.t 15), none, []⟩,
  ⟨some 88, .bin .add (.t 86) (.t 87), none, []⟩,
  ⟨some 89, .conv (.kind .u64) (.t 88), none, []⟩,
  ⟨some 90, .bin .shr (.t 89) (.c (.d (.int .u64 1))), none, []⟩,
  ⟨some 91, .conv (.kind .i64) (.t 90), none, []⟩,
  ⟨some 16, .move (.t 91), none, []⟩]
def r173_17 : List VOper := [
  ⟨some 92, .move (.t 4), none, []⟩,
  ⟨some 93, .move (.t 0), none, []⟩,
  ⟨some 94, .move (.t 2), none, []⟩,
  ⟨some 95, .indexAddr 3 none (.t 93) (.t 94), none, [1, 2]⟩,
  ⟨some 96, .load true 3 (.t 95), none, [3]⟩,
  ⟨some 97, .move (.t 0), none, []⟩,
  ⟨some 98, .move (.t 16), none, []⟩,
  ⟨some 99, .indexAddr 3 none (.t 97) (.t 98), none, [5, 6]⟩,
  ⟨some 100, .load true 3 (.t 99), none, [7]⟩,
  ⟨some 101, .call false (.t 92) [.t 96, .t 100], none, [0, 4, 8]⟩,
  ⟨some 102, .bin .lss (.t 101) (.c (.d (.int .i64 0))), none, [9]⟩,
  ⟨some 103, .not (.t 102), none, [10]⟩]
def r173_18 : List VOper := [
  ⟨some 104, .move (.t 16), none, []⟩,
  ⟨some 105, .bin .add (.t 104) (.c (.d (.int .i64 1))), none, []⟩,
  ⟨some 14, .move (.t 105), none, []⟩]
def r173_19 : List VOper := [
  ⟨some 106, .move (.t 16), none, []⟩,
  ⟨some 15, .move (.t 106), none, []⟩]
def b173_2 : VCode := (.seq (.seq (.region false 0 [0, 2, 4, 14, 15, 85] r173_15) (.cond (.t 85) .skip (.exit 4))) (.block 5 (.seq (.region false 0 [0, 2, 4, 14, 15, 16] r173_16) (.seq (.region true 0 [0, 2, 4, 14, 15, 16, 103] r173_17) (.cond (.t 103) (.region false 0 [0, 2, 4, 14, 15] r173_18) (.region false 0 [0, 2, 4, 14, 15] r173_19))))))
def r173_20 : List VOper := [
  ⟨some 107, .move (.t 2), none, []⟩,
  ⟨some 17, .move (.t 107), none, []⟩]
def r173_21 : List VOper := [
  ⟨some 108, .move (.t 17), none, []⟩,
  ⟨some 109, .move (.t 14), none, []⟩,
  ⟨some 110, .bin .gtr (.t 108) (.t 109), none, []⟩]
def r173_23 : List VOper := [
  ⟨some 113, .move (.t 0), none, []⟩,
  ⟨some 114, .move (.t 17), none, []⟩,
  ⟨some 115, .move (.t 0), none, []⟩,
  ⟨some 116, .move (.t 17), none, []⟩,
  ⟨some 117, .bin .sub (.t 116) (.c (.d (.int .i64 1))), none, [3]⟩,
  ⟨some 118, .move (.t 0), none, []⟩,
  ⟨some 119, .move (.t 17), none, []⟩,
  ⟨some 120, .bin .sub (.t 119) (.c (.d (.int .i64 1))), none, [6]⟩,
  ⟨some 121, .indexAddr 3 none (.t 118) (.t 120), none, [5, 7]⟩,
  ⟨some 122, .load true 3 (.t 121), none, [8]⟩,
  ⟨some 123, .move (.t 0), none, []⟩,
  ⟨some 124, .move (.t 17), none, []⟩,
  ⟨some 125, .indexAddr 3 none (.t 123) (.t 124), none, [10, 11]⟩,
  ⟨some 126, .load true 3 (.t 125), none, [12]⟩,
  ⟨some 127, .indexAddr 3 none (.t 113) (.t 114), none, [0, 1, 5, 6, 7, 8, 9, 13]⟩,
  ⟨none, .store false 3 (.t 127) (.t 122), none, [0, 1, 5, 6, 7, 8, 9, 13, 14]⟩,
  ⟨some 128, .indexAddr 3 none (.t 115) (.t 117), none, [0, 1, 2, 3, 4, 5, 6, 7, 8, 9, 10, 11, 12, 13, 14, 15]⟩,
  ⟨none, .store false 3 (.t 128) (.t 126), none, [0, 1, 2, 3, 4, 5, 6, 7, 8, 9, 10, 11, 12, 13, 14, 15, 16]⟩]
def r173_22 : List VOper := [
  ⟨some 111, .move (.t 17), none, []⟩,
  ⟨some 112, .bin .sub (.t 111) (.c (.d (.int .i64 1))), none, []⟩,
  ⟨some 17, .move (.t 112), none, []⟩]
def b173_3 : VCode := (.seq (.seq (.region false 0 [0, 14, 17, 110] r173_21) (.cond (.t 110) .skip (.exit 6))) (.seq (.block 7 (.region true 0 [0, 14, 17] r173_23)) (.region false 0 [0, 14, 17] r173_22)))
def r173_24 : List VOper := [
  ⟨some 129, .move (.t 1), none, []⟩,
  ⟨some 130, .move (.t 3), none, []⟩,
  ⟨some 131, .bin .add (.t 129) (.t 130), none, []⟩,
  ⟨some 132, .conv (.kind .u64) (.t 131), none, []⟩,
  ⟨some 133, .bin .shr (.t 132) (.c (.d (.int .u64 1))), none, []⟩,
  ⟨some 134, .conv (.kind .i64) (.t 133), none, []⟩,
  ⟨some 18, .move (.t 134), none, []⟩]
def r173_25 : List VOper := [
  ⟨some 135, .move (.t 18), none, []⟩,
  ⟨some 136, .move (.t 2), none, []⟩,
  ⟨some 137, .bin .add (.t 135) (.t 136), none, []⟩,
  ⟨some 19, .move (.t 137), none, []⟩]
def r173_26 : List VOper := [
  ⟨some 20, .move (.c (.d (.int .i64 0))), none, []⟩,
  ⟨some 21, .move (.c (.d (.int .i64 0))), none, []⟩]
def r173_27 : List VOper := [
  ⟨some 138, .move (.t 2), none, []⟩,
  ⟨some 139, .move (.t 18), none, []⟩,
  ⟨some 140, .bin .gtr (.t 138) (.t 139), none, []⟩]
def r173_28 : List VOper := [
  ⟨some 141, .move (.t 19), none, []⟩,
  ⟨some 142, .move (.t 3), none, []⟩,
  ⟨some 143, .bin .sub (.t 141) (.t 142), none, []⟩,
  ⟨some 20, .move (.t 143), none, []⟩]
def r173_29 : List VOper := [
  ⟨some 144, .move (.t 18), none, []⟩,
  ⟨some 21, .move (.t 144), none, []⟩]
def r173_30 : List VOper := [
  ⟨some 145, .move (.t 1), none, []⟩,
  ⟨some 20, .move (.t 145), none, []⟩]
def r173_31 : List VOper := [
  ⟨some 146, .move (.t 2), none, []⟩,
  ⟨some 21, .move (.t 146), none, []⟩]
def r173_32 : List VOper := [
  ⟨some 147, .move (.t 19), none, []⟩,
  ⟨some 148, .bin .sub (.t 147) (.c (.d (.int .i64 1))), none, []⟩,
  ⟨some 22, .move (.t 148), none, []⟩]
def r173_33 : List VOper := [
  ⟨some 149, .move (.t 20), none, []⟩,
  ⟨some 150, .move (.t 21), none, []⟩,
  ⟨some 151, .bin .lss (.t 149) (.t 150), none, []⟩]
def r173_34 : List VOper := [
  ⟨some 152, .move (.t 20), none, []⟩,
  ⟨some 153, .move (.t 21), none, []⟩,
  ⟨some 154, .bin .add (.t 152) (.t 153), none, []⟩,
  ⟨some 155, .conv (.kind .u64) (.t 154), none, []⟩,
  ⟨some 156, .bin .shr (.t 155) (.c (.d (.int .u64 1))), none, []⟩,
  ⟨some 157, .conv (.kind .i64) (.t 156), none, []⟩,
  ⟨some 23, .move (.t 157), none, []⟩]
def r173_35 : List VOper := [
  ⟨some 158, .move (.t 4), none, []⟩,
  ⟨some 159, .move (.t 0), none, []⟩,
  ⟨some 160, .move (.t 22), none, []⟩,
  ⟨some 161, .move (.t 23), none, []⟩,
  ⟨some 162, .bin .sub (.t 160) (.t 161), none, [2, 3]⟩,
  ⟨some 163, .indexAddr 3 none (.t 159) (.t 162), none, [1, 4]⟩,
  ⟨some 164, .load true 3 (.t 163), none, [5]⟩,
  ⟨some 165, .move (.t 0), none, []⟩,
  ⟨some 166, .move (.t 23), none, []⟩,
  ⟨some 167, .indexAddr 3 none (.t 165) (.t 166), none, [7, 8]⟩,
  ⟨some 168, .load true 3 (.t 167), none, [9]⟩,
  ⟨some 169, .call false (.t 158) [.t 164, .t 168], none, [0, 6, 10]⟩,
  ⟨some 170, .bin .lss (.t 169) (.c (.d (.int .i64 0))), none, [11]⟩,
  ⟨some 171, .not (.t 170), none, [12]⟩]
def r173_36 : List VOper := [
  ⟨some 172, .move (.t 23), none, []⟩,
  ⟨some 173, .bin .add (.t 172) (.c (.d (.int .i64 1))), none, []⟩,
  ⟨some 20, .move (.t 173), none, []⟩]
def r173_37 : List VOper := [
  ⟨some 174, .move (.t 23), none, []⟩,
  ⟨some 21, .move (.t 174), none, []⟩]
def b173_4 : VCode := (.seq (.seq (.region false 0 [0, 1, 2, 3, 4, 18, 19, 20, 21, 22, 151] r173_33) (.cond (.t 151) .skip (.exit 8))) (.block 9 (.seq (.region false 0 [0, 1, 2, 3, 4, 18, 19, 20, 21, 22, 23] r173_34) (.seq (.region true 0 [0, 1, 2, 3, 4, 18, 19, 20, 21, 22, 23, 171] r173_35) (.cond (.t 171) (.region false 0 [0, 1, 2, 3, 4, 18, 19, 20, 21, 22] r173_36) (.region false 0 [0, 1, 2, 3, 4, 18, 19, 20, 21, 22] r173_37))))))
def r173_38 : List VOper := [
  ⟨some 175, .move (.t 19), none, []⟩,
  ⟨some 176, .move (.t 20), none, []⟩,
  ⟨some 177, .bin .sub (.t 175) (.t 176), none, []⟩,
  ⟨some 24, .move (.t 177), none, []⟩]
def r173_39 : List VOper := [
  ⟨some 178, .move (.t 20), none, []⟩,
  ⟨some 179, .move (.t 2), none, []⟩,
  ⟨some 180, .bin .lss (.t 178) (.t 179), none, []⟩,
  ⟨some 181, .move (.t 180), none, []⟩,
  ⟨some 182, .move (.t 2), some (181, true), []⟩,
  ⟨some 183, .move (.t 24), some (181, true), []⟩,
  ⟨some 184, .bin .lss (.t 182) (.t 183), some (181, true), []⟩,
  ⟨some 185, .pick (.t 181) (.t 184) (.c (.d (.bool false))), none, []⟩]
def r173_40 : List VOper := [
  ⟨some 186, .move (.t 0), none, []⟩,
  ⟨some 187, .move (.t 20), none, []⟩,
  ⟨some 188, .move (.t 2), none, []⟩,
  ⟨some 189, .move (.t 24), none, []⟩,
  ⟨some 190, .move (.t 4), none, []⟩,
  ⟨some 191, .call false (.c (.fn 174 [])) [.t 186, .t 187, .t 188, .t 189, .t 190], none, []⟩]
def r173_41 : List VOper := [
  ⟨some 192, .move (.t 1), none, []⟩,
  ⟨some 193, .move (.t 20), none, []⟩,
  ⟨some 194, .bin .lss (.t 192) (.t 193), none, []⟩,
  ⟨some 195, .move (.t 194), none, []⟩,
  ⟨some 196, .move (.t 20), some (195, true), []⟩,
  ⟨some 197, .move (.t 18), some (195, true), []⟩,
  ⟨some 198, .bin .lss (.t 196) (.t 197), some (195, true), []⟩,
  ⟨some 199, .pick (.t 195) (.t 198) (.c (.d (.bool false))), none, []⟩]
def r173_42 : List VOper := [
  ⟨some 200, .move (.t 0), none, []⟩,
  ⟨some 201, .move (.t 1), none, []⟩,
  ⟨some 202, .move (.t 20), none, []⟩,
  ⟨some 203, .move (.t 18), none, []⟩,
  ⟨some 204, .move (.t 4), none, []⟩,
  ⟨some 205, .call false (.c (.fn 173 [])) [.t 200, .t 201, .t 202, .t 203, .t 204], none, []⟩]
def r173_43 : List VOper := [
  ⟨some 206, .move (.t 18), none, []⟩,
  ⟨some 207, .move (.t 24), none, []⟩,
  ⟨some 208, .bin .lss (.t 206) (.t 207), none, []⟩,
  ⟨some 209, .move (.t 208), none, []⟩,
  ⟨some 210, .move (.t 24), some (209, true), []⟩,
  ⟨some 211, .move (.t 3), some (209, true), []⟩,
  ⟨some 212, .bin .lss (.t 210) (.t 211), some (209, true), []⟩,
  ⟨some 213, .pick (.t 209) (.t 212) (.c (.d (.bool false))), none, []⟩]
def r173_44 : List VOper := [
  ⟨some 214, .move (.t 0), none, []⟩,
  ⟨some 215, .move (.t 18), none, []⟩,
  ⟨some 216, .move (.t 24), none, []⟩,
  ⟨some 217, .move (.t 3), none, []⟩,
  ⟨some 218, .move (.t 4), none, []⟩,
  ⟨some 219, .call false (.c (.fn 173 [])) [.t 214, .t 215, .t 216, .t 217, .t 218], none, []⟩]
def v173 : VFn := ⟨5, [], (.seq (.seq (.region false 0 [0, 1, 2, 3, 4, 28] r173_0) (.cond (.t 28) (.seq (.region false 0 [0, 1, 3, 4, 10] r173_1) (.seq (.region false 0 [0, 1, 4, 10, 11] r173_2) (.seq (.block 0 (.loop [0, 1, 4, 10, 11] b173_0)) (.seq (.seq (.region false 0 [0, 10, 13] r173_8) (.block 2 (.loop [0, 10, 13] b173_1))) .ret)))) .skip)) (.seq (.seq (.region false 0 [0, 1, 2, 3, 4, 80] r173_12) (.cond (.t 80) (.seq (.region false 0 [0, 2, 4, 14] r173_13) (.seq (.region false 0 [0, 2, 4, 14, 15] r173_14) (.seq (.block 4 (.loop [0, 2, 4, 14, 15] b173_2)) (.seq (.seq (.region false 0 [0, 14, 17] r173_20) (.block 6 (.loop [0, 14, 17] b173_3))) .ret)))) .skip)) (.seq (.region false 0 [0, 1, 2, 3, 4, 18] r173_24) (.seq (.region false 0 [0, 1, 2, 3, 4, 18, 19] r173_25) (.seq (.region false 0 [0, 1, 2, 3, 4, 18, 19] r173_26) (.seq (.seq (.region false 0 [0, 1, 2, 3, 4, 18, 19, 140] r173_27) (.cond (.t 140) (.seq (.region false 0 [0, 1, 2, 3, 4, 18, 19, 20] r173_28) (.region false 0 [0, 1, 2, 3, 4, 18, 19, 20, 21] r173_29)) (.seq (.region false 0 [0, 1, 2, 3, 4, 18, 19, 20] r173_30) (.region false 0 [0, 1, 2, 3, 4, 18, 19, 20, 21] r173_31)))) (.seq (.region false 0 [0, 1, 2, 3, 4, 18, 19, 20, 21, 22] r173_32) (.seq (.block 8 (.loop [0, 1, 2, 3, 4, 18, 19, 20, 21, 22] b173_4)) (.seq (.region false 0 [0, 1, 2, 3, 4, 18, 20, 24] r173_38) (.seq (.seq (.region false 0 [0, 1, 2, 3, 4, 18, 20, 24, 185] r173_39) (.cond (.t 185) (.region false 0 [0, 1, 3, 4, 18, 20, 24] r173_40) .skip)) (.seq (.seq (.region false 0 [0, 1, 3, 4, 18, 20, 24, 199] r173_41) (.cond (.t 199) (.region false 0 [0, 3, 4, 18, 24] r173_42) .skip)) (.seq (.region false 0 [0, 3, 4, 18, 24, 213] r173_43) (.cond (.t 213) (.region false 0 [] r173_44) .skip)))))))))))))⟩
/-! slices.rotateCmpFunc[loop.example/g00461/impl.Term] -/
def r174_0 : List VOper := [
  ⟨some 12, .move (.t 2), none, []⟩,
  ⟨some 13, .move (.t 1), none, []⟩,
  ⟨some 14, .bin .sub (.t 12) (.t 13), none, []⟩,
  ⟨some 10, .move (.t 14), none, []⟩]
def r174_1 : List VOper := [
  ⟨some 15, .move (.t 3), none, []⟩,
  ⟨some 16, .move (.t 2), none, []⟩,
  ⟨some 17, .bin .sub (.t 15) (.t 16), none, []⟩,
  ⟨some 11, .move (.t 17), none, []⟩]
def r174_2 : List VOper := [
  ⟨some 18, .move (.t 10), none, []⟩,
  ⟨some 19, .move (.t 11), none, []⟩,
  ⟨some 20, .bin .neq (.t 18) (.t 19), none, []⟩]
def r174_3 : List VOper := [
  ⟨some 21, .move (.t 10), none, []⟩,
  ⟨some 22, .move (.t 11), none, []⟩,
  ⟨some 23, .bin .gtr (.t 21) (.t 22), none, []⟩]
def r174_4 : List VOper := [
  ⟨some 24, .move (.t 0), none, []⟩,
  ⟨some 25, .move (.t 2), none, []⟩,
  ⟨some 26, .move (.t 10), none, []⟩,
  ⟨some 27, .bin .sub (.t 25) (.t 26), none, []⟩,
  ⟨some 28, .move (.t 2), none, []⟩,
  ⟨some 29, .move (.t 11), none, []⟩,
  ⟨some 30, .move (.t 4), none, []⟩,
  ⟨some 31, .call false (.c (.fn 175 [])) [.t 24, .t 27, .t 28, .t 29, .t 30], none, []⟩]
def r174_5 : List VOper := [
  ⟨some 32, .move (.t 10), none, []⟩,
  ⟨some 33, .move (.t 11), none, []⟩,
  ⟨some 34, .bin .sub (.t 32) (.t 33), none, []⟩,
  ⟨some 10, .move (.t 34), none, []⟩]
def r174_6 : List VOper := [
  ⟨some 35, .move (.t 0), none, []⟩,
  ⟨some 36, .move (.t 2), none, []⟩,
  ⟨some 37, .move (.t 10), none, []⟩,
  ⟨some 38, .bin .sub (.t 36) (.t 37), none, []⟩,
  ⟨some 39, .move (.t 2), none, []⟩,
  ⟨some 40, .move (.t 11), none, []⟩,
  ⟨some 41, .bin .add (.t 39) (.t 40), none, []⟩,
  ⟨some 42, .move (.t 10), none, []⟩,
  ⟨some 43, .bin .sub (.t 41) (.t 42), none, []⟩,
  ⟨some 44, .move (.t 10), none, []⟩,
  ⟨some 45, .move (.t 4), none, []⟩,
  ⟨some 46, .call false (.c (.fn 175 [])) [.t 35, .t 38, .t 43, .t 44, .t 45], none, []⟩]
def r174_7 : List VOper := [
  ⟨some 47, .move (.t 11), none, []⟩,
  ⟨some 48, .move (.t 10), none, []⟩,
  ⟨some 49, .bin .sub (.t 47) (.t 48), none, []⟩,
  ⟨some 11, .move (.t 49), none, []⟩]
def b174_0 : VCode := (.seq (.seq (.region false 0 [0, 2, 4, 10, 11, 20] r174_2) (.cond (.t 20) .skip (.exit 0))) (.block 1 (.seq (.region false 0 [0, 2, 4, 10, 11, 23] r174_3) (.cond (.t 23) (.seq (.region false 0 [0, 2, 4, 10, 11] r174_4) (.region false 0 [0, 2, 4, 10, 11] r174_5)) (.seq (.region false 0 [0, 2, 4, 10, 11] r174_6) (.region false 0 [0, 2, 4, 10, 11] r174_7))))))
def r174_8 : List VOper := [
  ⟨some 50, .move (.t 0), none, []⟩,
  ⟨some 51, .move (.t 2), none, []⟩,
  ⟨some 52, .move (.t 10), none, []⟩,
  ⟨some 53, .bin .sub (.t 51) (.t 52), none, []⟩,
  ⟨some 54, .move (.t 2), none, []⟩,
  ⟨some 55, .move (.t 10), none, []⟩,
  ⟨some 56, .move (.t 4), none, []⟩,
  ⟨some 57, .call false (.c (.fn 175 [])) [.t 50, .t 53, .t 54, .t 55, .t 56], none, []⟩]
def v174 : VFn := ⟨5, [], (.seq (.region false 0 [0, 2, 3, 4, 10] r174_0) (.seq (.region false 0 [0, 2, 4, 10, 11] r174_1) (.seq (.block 0 (.loop [0, 2, 4, 10, 11] b174_0)) (.region false 0 [] r174_8))))⟩
/-! slices.swapRangeCmpFunc[loop.example/g00461/impl.Term] -/
def r175_0 : List VOper := [
  ⟨some 10, .move (.c (.d (.int .i64 0))), none, []⟩]
def r175_1 : List VOper := [
  ⟨some 11, .move (.t 10), none, []⟩,
  ⟨some 12, .move (.t 3), none, []⟩,
  ⟨some 13, .bin .lss (.t 11) (.t 12), none, []⟩]
def r175_3 : List VOper := [
  ⟨some 16, .move (.t 0), none, []⟩,
  ⟨some 17, .move (.t 1), none, []⟩,
  ⟨some 18, .move (.t 10), none, []⟩,
  ⟨some 19, .bin .add (.t 17) (.t 18), none, [1, 2]⟩,
  ⟨some 20, .move (.t 0), none, []⟩,
  ⟨some 21, .move (.t 2), none, []⟩,
  ⟨some 22, .move (.t 10), none, []⟩,
  ⟨some 23, .bin .add (.t 21) (.t 22), none, [5, 6]⟩,
  ⟨some 24, .move (.t 0), none, []⟩,
  ⟨some 25, .move (.t 2), none, []⟩,
  ⟨some 26, .move (.t 10), none, []⟩,
  ⟨some 27, .bin .add (.t 25) (.t 26), none, [9, 10]⟩,
  ⟨some 28, .indexAddr 3 none (.t 24) (.t 27), none, [8, 11]⟩,
  ⟨some 29, .load true 3 (.t 28), none, [12]⟩,
  ⟨some 30, .move (.t 0), none, []⟩,
  ⟨some 31, .move (.t 1), none, []⟩,
  ⟨some 32, .move (.t 10), none, []⟩,
  ⟨some 33, .bin .add (.t 31) (.t 32), none, [15, 16]⟩,
  ⟨some 34, .indexAddr 3 none (.t 30) (.t 33), none, [14, 17]⟩,
  ⟨some 35, .load true 3 (.t 34), none, [18]⟩,
  ⟨some 36, .indexAddr 3 none (.t 16) (.t 19), none, [0, 1, 2, 3, 8, 9, 10, 11, 12, 13, 19]⟩,
  ⟨none, .store false 3 (.t 36) (.t 29), none, [0, 1, 2, 3, 8, 9, 10, 11, 12, 13, 19, 20]⟩,
  ⟨some 37, .indexAddr 3 none (.t 20) (.t 23), none, [0, 1, 2, 3, 4, 5, 6, 7, 8, 9, 10, 11, 12, 13, 14, 15, 16, 17, 18, 19, 20, 21]⟩,
  ⟨none, .store false 3 (.t 37) (.t 35), none, [0, 1, 2, 3, 4, 5, 6, 7, 8, 9, 10, 11, 12, 13, 14, 15, 16, 17, 18, 19, 20, 21, 22]⟩]
def r175_2 : List VOper := [
  ⟨some 14, .move (.t 10), none, []⟩,
  ⟨some 15, .bin .add (.t 14) (.c (.d (.int .i64 1))), none, []⟩,
  ⟨some 10, .move (.t 15), none, []⟩]
def b175_0 : VCode := (.seq (.seq (.region false 0 [0, 1, 2, 3, 10, 13] r175_1) (.cond (.t 13) .skip (.exit 0))) (.seq (.block 1 (.region true 0 [0, 1, 2, 3, 10] r175_3)) (.region false 0 [0, 1, 2, 3, 10] r175_2)))
def v175 : VFn := ⟨5, [], (.seq (.region false 0 [0, 1, 2, 3, 10] r175_0) (.block 0 (.loop [0, 1, 2, 3, 10] b175_0)))⟩
/-! loop.example/g00461/laws.markSymS -/
def r243_0 : List VOper := [
  ⟨some 4, .move (.c (.d (.int .i64 0))), none, []⟩]
def r243_1 : List VOper := [
  ⟨some 5, .move (.c (.d (.int .i64 0))), none, []⟩]
def r243_2 : List VOper := [
  ⟨some 6, .move (.t 5), none, []⟩,
  ⟨some 7, .move (.t 0), none, []⟩,
  ⟨some 8, .len false (.t 7), none, []⟩,
  ⟨some 9, .bin .lss (.t 6) (.t 8), none, []⟩]
def r243_4 : List VOper := [
  ⟨some 12, .move (.t 0), none, []⟩,
  ⟨some 13, .move (.t 5), none, []⟩,
  ⟨some 14, .move (.t 1), none, []⟩,
  ⟨some 15, .call false (.c (.fn 294 [])) [.t 14], none, []⟩,
  ⟨some 16, .indexAddr 3 none (.t 12) (.t 13), none, []⟩,
  ⟨some 17, .fieldAddr 0 (.t 16), none, []⟩,
  ⟨none, .store false 1 (.t 17) (.t 15), none, []⟩]
def r243_5 : List VOper := [
  ⟨some 18, .move (.t 1), none, []⟩,
  ⟨some 19, .bin .add (.t 18) (.c (.d (.int .i64 1))), none, []⟩,
  ⟨some 1, .move (.t 19), none, []⟩]
def r243_6 : List VOper := [
  ⟨some 20, .move (.t 0), none, []⟩,
  ⟨some 21, .move (.t 5), none, []⟩,
  ⟨some 22, .move (.t 1), none, []⟩,
  ⟨some 23, .indexAddr 3 none (.t 20) (.t 21), none, []⟩,
  ⟨some 24, .fieldAddr 1 (.t 23), none, []⟩,
  ⟨none, .store false 1 (.t 24) (.t 22), none, []⟩]
def r243_7 : List VOper := [
  ⟨some 25, .move (.t 1), none, []⟩,
  ⟨some 26, .bin .add (.t 25) (.c (.d (.int .i64 1))), none, []⟩,
  ⟨some 1, .move (.t 26), none, []⟩]
def r243_8 : List VOper := [
  ⟨some 27, .move (.t 0), none, []⟩,
  ⟨some 28, .move (.t 5), none, []⟩,
  ⟨some 29, .move (.t 1), none, []⟩,
  ⟨some 30, .bin .rem (.t 29) (.c (.d (.int .i64 3))), none, []⟩,
  ⟨some 31, .bin .eql (.t 30) (.c (.d (.int .i64 0))), none, []⟩,
  ⟨some 32, .indexAddr 3 none (.t 27) (.t 28), none, []⟩,
  ⟨some 33, .fieldAddr 2 (.t 32), none, []⟩,
  ⟨none, .store false 1 (.t 33) (.t 31), none, []⟩]
def r243_9 : List VOper := [
  ⟨some 34, .move (.t 1), none, []⟩,
  ⟨some 35, .bin .add (.t 34) (.c (.d (.int .i64 1))), none, []⟩,
  ⟨some 1, .move (.t 35), none, []⟩]
def r243_3 : List VOper := [
  ⟨some 10, .move (.t 5), none, []⟩,
  ⟨some 11, .bin .add (.t 10) (.c (.d (.int .i64 1))), none, []⟩,
  ⟨some 5, .move (.t 11), none, []⟩]
def b243_0 : VCode := (.seq (.seq (.region false 0 [0, 1, 5, 9] r243_2) (.cond (.t 9) .skip (.exit 0))) (.seq (.block 1 (.seq (.region false 0 [0, 1, 5] r243_4) (.seq (.region false 0 [0, 1, 5] r243_5) (.seq (.region false 0 [0, 1, 5] r243_6) (.seq (.region false 0 [0, 1, 5] r243_7) (.seq (.region false 0 [0, 1, 5] r243_8) (.region false 0 [0, 1, 5] r243_9))))))) (.region false 0 [0, 1, 5] r243_3)))
def r243_10 : List VOper := [
  ⟨some 36, .move (.t 1), none, []⟩,
  ⟨some 4, .move (.t 36), none, []⟩]
def v243 : VFn := ⟨2, [.tmp 4], (.seq (.region false 0 [0, 1] r243_0) (.seq (.seq (.region false 0 [0, 1, 5] r243_1) (.block 0 (.loop [0, 1, 5] b243_0))) (.seq (.region false 0 [4] r243_10) .ret)))⟩
/-! loop.example/g00461/laws.markTermS -/
def r244_0 : List VOper := [
  ⟨some 4, .move (.c (.d (.int .i64 0))), none, []⟩]
def r244_1 : List VOper := [
  ⟨some 5, .move (.c (.d (.int .i64 0))), none, []⟩]
def r244_2 : List VOper := [
  ⟨some 6, .move (.t 5), none, []⟩,
  ⟨some 7, .move (.t 0), none, []⟩,
  ⟨some 8, .len false (.t 7), none, []⟩,
  ⟨some 9, .bin .lss (.t 6) (.t 8), none, []⟩]
def r244_4 : List VOper := [
  ⟨some 12, .move (.t 0), none, []⟩,
  ⟨some 13, .move (.t 5), none, []⟩,
  ⟨some 14, .move (.t 1), none, []⟩,
  ⟨some 15, .indexAddr 3 none (.t 12) (.t 13), none, []⟩,
  ⟨some 16, .fieldAddr 0 (.t 15), none, []⟩,
  ⟨none, .store false 1 (.t 16) (.t 14), none, []⟩]
def r244_5 : List VOper := [
  ⟨some 17, .move (.t 1), none, []⟩,
  ⟨some 18, .bin .add (.t 17) (.c (.d (.int .i64 1))), none, []⟩,
  ⟨some 1, .move (.t 18), none, []⟩]
def r244_6 : List VOper := [
  ⟨some 19, .move (.t 0), none, []⟩,
  ⟨some 20, .move (.t 5), none, []⟩,
  ⟨some 21, .move (.t 1), none, []⟩,
  ⟨some 22, .indexAddr 3 none (.t 19) (.t 20), none, []⟩,
  ⟨some 23, .fieldAddr 1 (.t 22), none, []⟩,
  ⟨none, .store false 1 (.t 23) (.t 21), none, []⟩]
def r244_7 : List VOper := [
  ⟨some 24, .move (.t 1), none, []⟩,
  ⟨some 25, .bin .add (.t 24) (.c (.d (.int .i64 1))), none, []⟩,
  ⟨some 1, .move (.t 25), none, []⟩]
def r244_8 : List VOper := [
  ⟨some 26, .move (.t 0), none, []⟩,
  ⟨some 27, .move (.t 5), none, []⟩,
  ⟨some 28, .indexAddr 3 none (.t 26) (.t 27), none, []⟩,
  ⟨some 29, .fieldAddr 2 (.t 28), none, []⟩,
  ⟨some 30, .load false 1 (.t 29), none, []⟩,
  ⟨some 31, .move (.t 1), none, []⟩,
  ⟨some 32, .call false (.c (.fn 244 [])) [.t 30, .t 31], none, []⟩,
  ⟨some 1, .move (.t 32), none, []⟩]
def r244_3 : List VOper := [
  ⟨some 10, .move (.t 5), none, []⟩,
  ⟨some 11, .bin .add (.t 10) (.c (.d (.int .i64 1))), none, []⟩,
  ⟨some 5, .move (.t 11), none, []⟩]
def b244_0 : VCode := (.seq (.seq (.region false 0 [0, 1, 5, 9] r244_2) (.cond (.t 9) .skip (.exit 0))) (.seq (.block 1 (.seq (.region false 0 [0, 1, 5] r244_4) (.seq (.region false 0 [0, 1, 5] r244_5) (.seq (.region false 0 [0, 1, 5] r244_6) (.seq (.region false 0 [0, 1, 5] r244_7) (.region false 0 [0, 1, 5] r244_8)))))) (.region false 0 [0, 1, 5] r244_3)))
def r244_9 : List VOper := [
  ⟨some 33, .move (.t 1), none, []⟩,
  ⟨some 4, .move (.t 33), none, []⟩]
def v244 : VFn := ⟨2, [.tmp 4], (.seq (.region false 0 [0, 1] r244_0) (.seq (.seq (.region false 0 [0, 1, 5] r244_1) (.block 0 (.loop [0, 1, 5] b244_0))) (.seq (.region false 0 [4] r244_9) .ret)))⟩
/-! loop.example/g00461/laws.heldBindS -/
def r291_0 : List VOper := [
  ⟨some 4, .move (.c (.d (.int .i64 0))), none, []⟩]
def r291_1 : List VOper := [
  ⟨some 5, .move (.c (.d (.int .i64 0))), none, []⟩]
def r291_2 : List VOper := [
  ⟨some 6, .move (.t 5), none, []⟩,
  ⟨some 7, .move (.t 0), none, []⟩,
  ⟨some 8, .len false (.t 7), none, []⟩,
  ⟨some 9, .bin .lss (.t 6) (.t 8), none, []⟩]
def r291_4 : List VOper := [
  ⟨some 12, .move (.t 0), none, []⟩,
  ⟨some 13, .move (.t 5), none, []⟩,
  ⟨some 14, .indexAddr 4 none (.t 12) (.t 13), none, []⟩,
  ⟨some 15, .fieldAddr 0 (.t 14), none, []⟩,
  ⟨some 16, .load false 1 (.t 15), none, []⟩,
  ⟨some 17, .move (.t 1), none, []⟩,
  ⟨some 18, .bin .neq (.t 16) (.t 17), none, []⟩]
def r291_5 : List VOper := [
  ⟨some 4, .move (.c (.d (.int .i64 (-1)))), none, []⟩]
def r291_6 : List VOper := [
  ⟨some 19, .move (.t 1), none, []⟩,
  ⟨some 20, .bin .add (.t 19) (.c (.d (.int .i64 1))), none, []⟩,
  ⟨some 1, .move (.t 20), none, []⟩]
def r291_7 : List VOper := [
  ⟨some 21, .move (.t 0), none, []⟩,
  ⟨some 22, .move (.t 5), none, []⟩,
  ⟨some 23, .indexAddr 4 none (.t 21) (.t 22), none, []⟩,
  ⟨some 24, .fieldAddr 1 (.t 23), none, []⟩,
  ⟨some 25, .fieldAddr 0 (.t 24), none, []⟩,
  ⟨some 26, .load false 1 (.t 25), none, []⟩,
  ⟨some 27, .move (.t 1), none, []⟩,
  ⟨some 28, .bin .neq (.t 26) (.t 27), none, []⟩]
def r291_8 : List VOper := [
  ⟨some 4, .move (.c (.d (.int .i64 (-1)))), none, []⟩]
def r291_9 : List VOper := [
  ⟨some 29, .move (.t 1), none, []⟩,
  ⟨some 30, .bin .add (.t 29) (.c (.d (.int .i64 1))), none, []⟩,
  ⟨some 1, .move (.t 30), none, []⟩]
def r291_10 : List VOper := [
  ⟨some 31, .move (.t 0), none, []⟩,
  ⟨some 32, .move (.t 5), none, []⟩,
  ⟨some 33, .indexAddr 4 none (.t 31) (.t 32), none, []⟩,
  ⟨some 34, .fieldAddr 1 (.t 33), none, []⟩,
  ⟨some 35, .fieldAddr 1 (.t 34), none, []⟩,
  ⟨some 36, .load false 1 (.t 35), none, []⟩,
  ⟨some 37, .move (.t 1), none, []⟩,
  ⟨some 38, .bin .neq (.t 36) (.t 37), none, []⟩]
def r291_11 : List VOper := [
  ⟨some 4, .move (.c (.d (.int .i64 (-1)))), none, []⟩]
def r291_12 : List VOper := [
  ⟨some 39, .move (.t 1), none, []⟩,
  ⟨some 40, .bin .add (.t 39) (.c (.d (.int .i64 1))), none, []⟩,
  ⟨some 1, .move (.t 40), none, []⟩]
def r291_13 : List VOper := [
  ⟨some 41, .move (.t 0), none, []⟩,
  ⟨some 42, .move (.t 5), none, []⟩,
  ⟨some 43, .indexAddr 4 none (.t 41) (.t 42), none, []⟩,
  ⟨some 44, .fieldAddr 1 (.t 43), none, []⟩,
  ⟨some 45, .fieldAddr 2 (.t 44), none, []⟩,
  ⟨some 46, .load false 1 (.t 45), none, []⟩,
  ⟨some 47, .move (.t 1), none, []⟩,
  ⟨some 48, .call false (.c (.fn 292 [])) [.t 46, .t 47], none, []⟩,
  ⟨some 1, .move (.t 48), none, []⟩]
def r291_14 : List VOper := [
  ⟨some 49, .move (.t 1), none, []⟩,
  ⟨some 50, .bin .lss (.t 49) (.c (.d (.int .i64 0))), none, []⟩]
def r291_15 : List VOper := [
  ⟨some 4, .move (.c (.d (.int .i64 (-1)))), none, []⟩]
def r291_3 : List VOper := [
  ⟨some 10, .move (.t 5), none, []⟩,
  ⟨some 11, .bin .add (.t 10) (.c (.d (.int .i64 1))), none, []⟩,
  ⟨some 5, .move (.t 11), none, []⟩]
def b291_0 : VCode := (.seq (.seq (.region false 0 [0, 1, 5, 9] r291_2) (.cond (.t 9) .skip (.exit 0))) (.seq (.block 1 (.seq (.seq (.region false 0 [0, 1, 5, 18] r291_4) (.cond (.t 18) (.seq (.region false 0 [4] r291_5) .ret) .skip)) (.seq (.region false 0 [0, 1, 5] r291_6) (.seq (.seq (.region false 0 [0, 1, 5, 28] r291_7) (.cond (.t 28) (.seq (.region false 0 [4] r291_8) .ret) .skip)) (.seq (.region false 0 [0, 1, 5] r291_9) (.seq (.seq (.region false 0 [0, 1, 5, 38] r291_10) (.cond (.t 38) (.seq (.region false 0 [4] r291_11) .ret) .skip)) (.seq (.region false 0 [0, 1, 5] r291_12) (.seq (.region false 0 [0, 1, 5] r291_13) (.seq (.region false 0 [0, 1, 5, 50] r291_14) (.cond (.t 50) (.seq (.region false 0 [4] r291_15) .ret) .skip)))))))))) (.region false 0 [0, 1, 5] r291_3)))
def r291_16 : List VOper := [
  ⟨some 51, .move (.t 1), none, []⟩,
  ⟨some 4, .move (.t 51), none, []⟩]
def v291 : VFn := ⟨2, [.tmp 4], (.seq (.region false 0 [0, 1] r291_0) (.seq (.seq (.region false 0 [0, 1, 5] r291_1) (.block 0 (.loop [0, 1, 5] b291_0))) (.seq (.region false 0 [4] r291_16) .ret)))⟩
/-! loop.example/g00461/laws.heldTermS -/
def r292_0 : List VOper := [
  ⟨some 4, .move (.c (.d (.int .i64 0))), none, []⟩]
def r292_1 : List VOper := [
  ⟨some 5, .move (.c (.d (.int .i64 0))), none, []⟩]
def r292_2 : List VOper := [
  ⟨some 6, .move (.t 5), none, []⟩,
  ⟨some 7, .move (.t 0), none, []⟩,
  ⟨some 8, .len false (.t 7), none, []⟩,
  ⟨some 9, .bin .lss (.t 6) (.t 8), none, []⟩]
def r292_4 : List VOper := [
  ⟨some 12, .move (.t 0), none, []⟩,
  ⟨some 13, .move (.t 5), none, []⟩,
  ⟨some 14, .indexAddr 3 none (.t 12) (.t 13), none, []⟩,
  ⟨some 15, .fieldAddr 0 (.t 14), none, []⟩,
  ⟨some 16, .load false 1 (.t 15), none, []⟩,
  ⟨some 17, .move (.t 1), none, []⟩,
  ⟨some 18, .bin .neq (.t 16) (.t 17), none, []⟩]
def r292_5 : List VOper := [
  ⟨some 4, .move (.c (.d (.int .i64 (-1)))), none, []⟩]
def r292_6 : List VOper := [
  ⟨some 19, .move (.t 1), none, []⟩,
  ⟨some 20, .bin .add (.t 19) (.c (.d (.int .i64 1))), none, []⟩,
  ⟨some 1, .move (.t 20), none, []⟩]
def r292_7 : List VOper := [
  ⟨some 21, .move (.t 0), none, []⟩,
  ⟨some 22, .move (.t 5), none, []⟩,
  ⟨some 23, .indexAddr 3 none (.t 21) (.t 22), none, []⟩,
  ⟨some 24, .fieldAddr 1 (.t 23), none, []⟩,
  ⟨some 25, .load false 1 (.t 24), none, []⟩,
  ⟨some 26, .move (.t 1), none, []⟩,
  ⟨some 27, .bin .neq (.t 25) (.t 26), none, []⟩]
def r292_8 : List VOper := [
  ⟨some 4, .move (.c (.d (.int .i64 (-1)))), none, []⟩]
def r292_9 : List VOper := [
  ⟨some 28, .move (.t 1), none, []⟩,
  ⟨some 29, .bin .add (.t 28) (.c (.d (.int .i64 1))), none, []⟩,
  ⟨some 1, .move (.t 29), none, []⟩]
def r292_10 : List VOper := [
  ⟨some 30, .move (.t 0), none, []⟩,
  ⟨some 31, .move (.t 5), none, []⟩,
  ⟨some 32, .indexAddr 3 none (.t 30) (.t 31), none, []⟩,
  ⟨some 33, .fieldAddr 2 (.t 32), none, []⟩,
  ⟨some 34, .load false 1 (.t 33), none, []⟩,
  ⟨some 35, .move (.t 1), none, []⟩,
  ⟨some 36, .call false (.c (.fn 292 [])) [.t 34, .t 35], none, []⟩,
  ⟨some 1, .move (.t 36), none, []⟩]
def r292_11 : List VOper := [
  ⟨some 37, .move (.t 1), none, []⟩,
  ⟨some 38, .bin .lss (.t 37) (.c (.d (.int .i64 0))), none, []⟩]
def r292_12 : List VOper := [
  ⟨some 4, .move (.c (.d (.int .i64 (-1)))), none, []⟩]
def r292_3 : List VOper := [
  ⟨some 10, .move (.t 5), none, []⟩,
  ⟨some 11, .bin .add (.t 10) (.c (.d (.int .i64 1))), none, []⟩,
  ⟨some 5, .move (.t 11), none, []⟩]
def b292_0 : VCode := (.seq (.seq (.region false 0 [0, 1, 5, 9] r292_2) (.cond (.t 9) .skip (.exit 0))) (.seq (.block 1 (.seq (.seq (.region false 0 [0, 1, 5, 18] r292_4) (.cond (.t 18) (.seq (.region false 0 [4] r292_5) .ret) .skip)) (.seq (.region false 0 [0, 1, 5] r292_6) (.seq (.seq (.region false 0 [0, 1, 5, 27] r292_7) (.cond (.t 27) (.seq (.region false 0 [4] r292_8) .ret) .skip)) (.seq (.region false 0 [0, 1, 5] r292_9) (.seq (.region false 0 [0, 1, 5] r292_10) (.seq (.region false 0 [0, 1, 5, 38] r292_11) (.cond (.t 38) (.seq (.region false 0 [4] r292_12) .ret) .skip)))))))) (.region false 0 [0, 1, 5] r292_3)))
def r292_13 : List VOper := [
  ⟨some 39, .move (.t 1), none, []⟩,
  ⟨some 4, .move (.t 39), none, []⟩]
def v292 : VFn := ⟨2, [.tmp 4], (.seq (.region false 0 [0, 1] r292_0) (.seq (.seq (.region false 0 [0, 1, 5] r292_1) (.block 0 (.loop [0, 1, 5] b292_0))) (.seq (.region false 0 [4] r292_13) .ret)))⟩
/-! loop.example/g00461/laws.markBindS -/
def r293_0 : List VOper := [
  ⟨some 4, .move (.c (.d (.int .i64 0))), none, []⟩]
def r293_1 : List VOper := [
  ⟨some 5, .move (.c (.d (.int .i64 0))), none, []⟩]
def r293_2 : List VOper := [
  ⟨some 6, .move (.t 5), none, []⟩,
  ⟨some 7, .move (.t 0), none, []⟩,
  ⟨some 8, .len false (.t 7), none, []⟩,
  ⟨some 9, .bin .lss (.t 6) (.t 8), none, []⟩]
def r293_4 : List VOper := [
  ⟨some 12, .move (.t 0), none, []⟩,
  ⟨some 13, .move (.t 5), none, []⟩,
  ⟨some 14, .move (.t 1), none, []⟩,
  ⟨some 15, .indexAddr 4 none (.t 12) (.t 13), none, []⟩,
  ⟨some 16, .fieldAddr 0 (.t 15), none, []⟩,
  ⟨none, .store false 1 (.t 16) (.t 14), none, []⟩]
def r293_5 : List VOper := [
  ⟨some 17, .move (.t 1), none, []⟩,
  ⟨some 18, .bin .add (.t 17) (.c (.d (.int .i64 1))), none, []⟩,
  ⟨some 1, .move (.t 18), none, []⟩]
def r293_6 : List VOper := [
  ⟨some 19, .move (.t 0), none, []⟩,
  ⟨some 20, .move (.t 5), none, []⟩,
  ⟨some 21, .move (.t 1), none, []⟩,
  ⟨some 22, .indexAddr 4 none (.t 19) (.t 20), none, []⟩,
  ⟨some 23, .fieldAddr 1 (.t 22), none, []⟩,
  ⟨some 24, .fieldAddr 0 (.t 23), none, []⟩,
  ⟨none, .store false 1 (.t 24) (.t 21), none, []⟩]
def r293_7 : List VOper := [
  ⟨some 25, .move (.t 1), none, []⟩,
  ⟨some 26, .bin .add (.t 25) (.c (.d (.int .i64 1))), none, []⟩,
  ⟨some 1, .move (.t 26), none, []⟩]
def r293_8 : List VOper := [
  ⟨some 27, .move (.t 0), none, []⟩,
  ⟨some 28, .move (.t 5), none, []⟩,
  ⟨some 29, .move (.t 1), none, []⟩,
  ⟨some 30, .indexAddr 4 none (.t 27) (.t 28), none, []⟩,
  ⟨some 31, .fieldAddr 1 (.t 30), none, []⟩,
  ⟨some 32, .fieldAddr 1 (.t 31), none, []⟩,
  ⟨none, .store false 1 (.t 32) (.t 29), none, []⟩]
def r293_9 : List VOper := [
  ⟨some 33, .move (.t 1), none, []⟩,
  ⟨some 34, .bin .add (.t 33) (.c (.d (.int .i64 1))), none, []⟩,
  ⟨some 1, .move (.t 34), none, []⟩]
def r293_10 : List VOper := [
  ⟨some 35, .move (.t 0), none, []⟩,
  ⟨some 36, .move (.t 5), none, []⟩,
  ⟨some 37, .indexAddr 4 none (.t 35) (.t 36), none, []⟩,
  ⟨some 38, .fieldAddr 1 (.t 37), none, []⟩,
  ⟨some 39, .fieldAddr 2 (.t 38), none, []⟩,
  ⟨some 40, .load false 1 (.t 39), none, []⟩,
  ⟨some 41, .move (.t 1), none, []⟩,
  ⟨some 42, .call false (.c (.fn 244 [])) [.t 40, .t 41], none, []⟩,
  ⟨some 1, .move (.t 42), none, []⟩]
def r293_3 : List VOper := [
  ⟨some 10, .move (.t 5), none, []⟩,
  ⟨some 11, .bin .add (.t 10) (.c (.d (.int .i64 1))), none, []⟩,
  ⟨some 5, .move (.t 11), none, []⟩]
def b293_0 : VCode := (.seq (.seq (.region false 0 [0, 1, 5, 9] r293_2) (.cond (.t 9) .skip (.exit 0))) (.seq (.block 1 (.seq (.region false 0 [0, 1, 5] r293_4) (.seq (.region false 0 [0, 1, 5] r293_5) (.seq (.region false 0 [0, 1, 5] r293_6) (.seq (.region false 0 [0, 1, 5] r293_7) (.seq (.region false 0 [0, 1, 5] r293_8) (.seq (.region false 0 [0, 1, 5] r293_9) (.region false 0 [0, 1, 5] r293_10)))))))) (.region false 0 [0, 1, 5] r293_3)))
def r293_11 : List VOper := [
  ⟨some 43, .move (.t 1), none, []⟩,
  ⟨some 4, .move (.t 43), none, []⟩]
def v293 : VFn := ⟨2, [.tmp 4], (.seq (.region false 0 [0, 1] r293_0) (.seq (.seq (.region false 0 [0, 1, 5] r293_1) (.block 0 (.loop [0, 1, 5] b293_0))) (.seq (.region false 0 [4] r293_11) .ret)))⟩
/-! loop.example/g00461/laws.markText -/
def r294_0 : List VOper := [
  ⟨some 2, .move (.c (.d (.str ⟨#[]⟩))), none, []⟩]
def r294_1 : List VOper := [
  ⟨some 4, .move (.t 0), none, []⟩,
  ⟨some 5, .bin .leq (.t 4) (.c (.d (.int .i64 0))), none, []⟩]
def r294_2 : List VOper := [
  ⟨some 2, .move (.c (.d (.str ⟨#[109, 48]⟩))), none, []⟩]
def r294_3 : List VOper := [
  ⟨some 3, .move (.c (.d (.str ⟨#[]⟩))), none, []⟩]
def r294_4 : List VOper := [
  ⟨some 6, .move (.t 0), none, []⟩,
  ⟨some 7, .bin .gtr (.t 6) (.c (.d (.int .i64 0))), none, []⟩]
def r294_5 : List VOper := [
  ⟨some 8, .move (.t 0), none, []⟩,
  ⟨some 9, .bin .rem (.t 8) (.c (.d (.int .i64 10))), none, []⟩,
  ⟨some 10, .bin .add (.c (.d (.int .i64 48))) (.t 9), none, []⟩,
  ⟨some 11, .conv (.kind .u8) (.t 10), none, []⟩,
  ⟨some 12, .buildSlice 1 (.int .u8 0) 1 [(0, .t 11)], none, []⟩,
  ⟨some 13, .conv .bytes (.t 12), none, []⟩,
  ⟨some 14, .move (.t 3), none, []⟩,
  ⟨some 15, .bin .add (.t 13) (.t 14), none, []⟩,
  ⟨some 3, .move (.t 15), none, []⟩]
def r294_6 : List VOper := [
  ⟨some 16, .move (.t 0), none, []⟩,
  ⟨some 17, .bin .quo (.t 16) (.c (.d (.int .i64 10))), none, []⟩,
  ⟨some 0, .move (.t 17), none, []⟩]
def b294_0 : VCode := (.seq (.seq (.region false 0 [0, 3, 7] r294_4) (.cond (.t 7) .skip (.exit 0))) (.block 1 (.seq (.region false 0 [0, 3] r294_5) (.region false 0 [0, 3] r294_6))))
def r294_7 : List VOper := [
  ⟨some 18, .move (.t 3), none, []⟩,
  ⟨some 19, .bin .add (.c (.d (.str ⟨#[109]⟩))) (.t 18), none, []⟩,
  ⟨some 2, .move (.t 19), none, []⟩]
def v294 : VFn := ⟨1, [.tmp 2], (.seq (.region false 0 [0] r294_0) (.seq (.seq (.region false 0 [0, 5] r294_1) (.cond (.t 5) (.seq (.region false 0 [2] r294_2) .ret) .skip)) (.seq (.region false 0 [0, 3] r294_3) (.seq (.block 0 (.loop [0, 3] b294_0)) (.seq (.region false 0 [2] r294_7) .ret)))))⟩
/-! loop.example/g00461/laws.markTerm -/
def r308_0 : List VOper := [
  ⟨some 2, .box 0 (.t 0), none, []⟩,
  ⟨some 4, .move (.c (.d (.int .i64 0))), none, []⟩]
def r308_1 : List VOper := [
  ⟨some 5, .fieldAddr 2 (.t 2), none, []⟩,
  ⟨some 6, .load false 1 (.t 5), none, []⟩,
  ⟨some 7, .move (.t 1), none, []⟩,
  ⟨some 8, .call false (.c (.fn 244 [])) [.t 6, .t 7], none, []⟩,
  ⟨some 1, .move (.t 8), none, []⟩]
def r308_2 : List VOper := [
  ⟨some 9, .move (.t 1), none, []⟩,
  ⟨some 4, .move (.t 9), none, []⟩]
def v308 : VFn := ⟨2, [.tmp 4], (.seq (.region false 1 [1, 2] r308_0) (.seq (.region false 0 [1] r308_1) (.seq (.region false 0 [4] r308_2) .ret)))⟩
/-! loop.example/g00461/laws.FnExactSubAdd -/
def r358_0 : List VOper := [
  ⟨some 7, .box 0 (.t 3), none, []⟩,
  ⟨some 8, .move (.c (.d (.bool false))), none, []⟩]
def r358_1 : List VOper := [
  ⟨some 9, .move (.c (.d (.int .i64 1048576))), none, []⟩]
def r358_2 : List VOper := [
  ⟨some 19, .move (.t 0), none, []⟩,
  ⟨some 20, .move (.t 9), none, []⟩,
  ⟨some 21, .call true (.c (.fn 11 [])) [.t 19, .t 20], none, []⟩,
  ⟨some 9, .move (.t 21), none, []⟩]
def r358_3 : List VOper := [
  ⟨some 22, .move (.t 9), none, []⟩,
  ⟨some 23, .bin .lss (.t 22) (.c (.d (.int .i64 0))), none, []⟩]
def r358_4 : List VOper := [
  ⟨some 8, .move (.c (.d (.bool true))), none, []⟩]
def r358_5 : List VOper := [
  ⟨some 24, .move (.t 1), none, []⟩,
  ⟨some 25, .move (.t 9), none, []⟩,
  ⟨some 26, .call true (.c (.fn 65 [])) [.t 24, .t 25], none, []⟩,
  ⟨some 9, .move (.t 26), none, []⟩]
def r358_6 : List VOper := [
  ⟨some 27, .move (.t 9), none, []⟩,
  ⟨some 28, .bin .lss (.t 27) (.c (.d (.int .i64 0))), none, []⟩]
def r358_7 : List VOper := [
  ⟨some 8, .move (.c (.d (.bool true))), none, []⟩]
def r358_8 : List VOper := [
  ⟨some 29, .load true 3 (.t 7), none, []⟩,
  ⟨some 30, .move (.t 9), none, []⟩,
  ⟨some 31, .call true (.c (.fn 1 [])) [.t 29, .t 30], none, []⟩,
  ⟨some 9, .move (.t 31), none, []⟩]
def r358_9 : List VOper := [
  ⟨some 32, .move (.t 9), none, []⟩,
  ⟨some 33, .bin .lss (.t 32) (.c (.d (.int .i64 0))), none, []⟩]
def r358_10 : List VOper := [
  ⟨some 8, .move (.c (.d (.bool true))), none, []⟩]
def r358_11 : List VOper := [
  ⟨some 34, .move (.t 0), none, []⟩,
  ⟨some 35, .call true (.c (.fn 12 [])) [.t 34], none, [0]⟩,
  ⟨some 36, .move (.t 1), none, []⟩,
  ⟨some 37, .call true (.c (.fn 66 [])) [.t 36], none, [1, 2]⟩,
  ⟨some 38, .move (.t 2), none, []⟩,
  ⟨some 39, .load true 3 (.t 7), none, []⟩,
  ⟨some 40, .call true (.c (.fn 2 [])) [.t 39], none, [3, 5]⟩,
  ⟨some 41, .call true (.c (.fn 142 [])) [.t 35, .t 37, .t 38, .t 40], none, [1, 3, 4, 6]⟩,
  ⟨some 10, .move (.t 41), none, [0, 1, 2, 3, 4, 5, 6, 7]⟩]
def r358_12 : List VOper := [
  ⟨some 42, .move (.t 0), none, []⟩,
  ⟨some 43, .callT true (.c (.fn 12 [])) [.t 42], none, []⟩,
  ⟨some 11, .move (.t 43), none, []⟩]
def r358_13 : List VOper := [
  ⟨some 44, .move (.t 1), none, []⟩,
  ⟨some 45, .callT true (.c (.fn 66 [])) [.t 44], none, []⟩,
  ⟨some 12, .move (.t 45), none, []⟩]
def r358_14 : List VOper := [
  ⟨some 46, .load true 3 (.t 7), none, []⟩,
  ⟨some 47, .callT true (.c (.fn 2 [])) [.t 46], none, []⟩,
  ⟨some 13, .allocE [.int .i64 0, .int .i64 0, .sl .nil []], none, []⟩,
  ⟨none, .store false 3 (.t 13) (.t 47), none, []⟩]
def r358_15 : List VOper := [
  ⟨some 48, .move (.t 11), none, []⟩,
  ⟨some 49, .move (.t 12), none, []⟩,
  ⟨some 50, .move (.t 2), none, []⟩,
  ⟨some 51, .load true 3 (.t 13), none, []⟩,
  ⟨some 52, .callT true (.c (.fn 137 [])) [.t 48, .t 49, .t 50, .t 51], none, []⟩,
  ⟨some 14, .move (.t 52), none, []⟩]
def r358_16 : List VOper := [
  ⟨some 53, .move (.t 14), none, []⟩,
  ⟨some 54, .move (.t 10), none, []⟩,
  ⟨some 55, .callT false (.c (.fn 69 [])) [.t 53, .t 54], none, []⟩,
  ⟨some 56, .not (.t 55), none, []⟩]
def r358_17 : List VOper := [
  ⟨some 8, .move (.c (.d (.bool false))), none, []⟩]
def r358_18 : List VOper := [
  ⟨some 57, .move (.t 11), none, []⟩,
  ⟨some 58, .move (.t 0), none, []⟩,
  ⟨some 59, .call true (.c (.fn 12 [])) [.t 58], none, []⟩,
  ⟨some 60, .callT false (.c (.fn 15 [])) [.t 57, .t 59], none, []⟩,
  ⟨some 61, .not (.t 60), none, []⟩]
def r358_19 : List VOper := [
  ⟨some 8, .move (.c (.d (.bool false))), none, []⟩]
def r358_20 : List VOper := [
  ⟨some 62, .move (.t 12), none, []⟩,
  ⟨some 63, .move (.t 1), none, []⟩,
  ⟨some 64, .call true (.c (.fn 66 [])) [.t 63], none, []⟩,
  ⟨some 65, .callT false (.c (.fn 69 [])) [.t 62, .t 64], none, []⟩,
  ⟨some 66, .not (.t 65), none, []⟩]
def r358_21 : List VOper := [
  ⟨some 8, .move (.c (.d (.bool false))), none, []⟩]
def r358_22 : List VOper := [
  ⟨some 67, .load true 3 (.t 13), none, []⟩,
  ⟨some 68, .load true 3 (.t 7), none, []⟩,
  ⟨some 69, .call true (.c (.fn 2 [])) [.t 68], none, [1]⟩,
  ⟨some 70, .callT false (.c (.fn 5 [])) [.t 67, .t 69], none, [0, 2]⟩,
  ⟨some 71, .not (.t 70), none, [3]⟩]
def r358_23 : List VOper := [
  ⟨some 8, .move (.c (.d (.bool false))), none, []⟩]
def r358_24 : List VOper := [
  ⟨some 15, .move (.c (.d (.int .i64 1))), none, []⟩]
def r358_25 : List VOper := [
  ⟨some 72, .move (.t 11), none, []⟩,
  ⟨some 73, .move (.t 15), none, []⟩,
  ⟨some 74, .call false (.c (.fn 243 [])) [.t 72, .t 73], none, []⟩,
  ⟨some 15, .move (.t 74), none, []⟩]
def r358_26 : List VOper := [
  ⟨some 75, .move (.t 12), none, []⟩,
  ⟨some 76, .move (.t 15), none, []⟩,
  ⟨some 77, .call false (.c (.fn 293 [])) [.t 75, .t 76], none, []⟩,
  ⟨some 15, .move (.t 77), none, []⟩]
def r358_27 : List VOper := [
  ⟨some 78, .load true 3 (.t 13), none, []⟩,
  ⟨some 79, .move (.t 15), none, []⟩,
  ⟨some 80, .call false (.c (.fn 308 [])) [.t 78, .t 79], none, []⟩,
  ⟨some 15, .move (.t 80), none, []⟩]
def r358_28 : List VOper := [
  ⟨some 81, .move (.t 15), none, []⟩,
  ⟨some 82, .bin .lss (.t 81) (.c (.d (.int .i64 0))), none, []⟩,
  ⟨some 83, .move (.t 82), none, []⟩,
  ⟨some 84, .move (.t 14), some (83, false), []⟩,
  ⟨some 85, .move (.t 10), some (83, false), []⟩,
  ⟨some 86, .callT false (.c (.fn 69 [])) [.t 84, .t 85], some (83, false), []⟩,
  ⟨some 87, .not (.t 86), some (83, false), []⟩,
  ⟨some 88, .pick (.t 83) (.c (.d (.bool true))) (.t 87), none, []⟩]
def r358_29 : List VOper := [
  ⟨some 8, .move (.c (.d (.bool false))), none, []⟩]
def r358_30 : List VOper := [
  ⟨some 16, .move (.c (.d (.int .i64 1))), none, []⟩]
def r358_31 : List VOper := [
  ⟨some 89, .move (.t 14), none, []⟩,
  ⟨some 90, .move (.t 16), none, []⟩,
  ⟨some 91, .call false (.c (.fn 293 [])) [.t 89, .t 90], none, []⟩,
  ⟨some 16, .move (.t 91), none, []⟩]
def r358_32 : List VOper := [
  ⟨some 17, .move (.c (.d (.int .i64 1))), none, []⟩]
def r358_33 : List VOper := [
  ⟨some 92, .move (.t 14), none, []⟩,
  ⟨some 93, .move (.t 17), none, []⟩,
  ⟨some 94, .call false (.c (.fn 291 [])) [.t 92, .t 93], none, []⟩,
  ⟨some 17, .move (.t 94), none, []⟩]
def r358_34 : List VOper := [
  ⟨some 95, .move (.t 17), none, []⟩,
  ⟨some 96, .bin .lss (.t 95) (.c (.d (.int .i64 0))), none, []⟩]
def r358_35 : List VOper := [
  ⟨some 8, .move (.c (.d (.bool false))), none, []⟩]
def r358_36 : List VOper := [
  ⟨some 97, .move (.t 17), none, []⟩,
  ⟨some 98, .move (.t 16), none, []⟩,
  ⟨some 99, .bin .neq (.t 97) (.t 98), none, []⟩]
def r358_37 : List VOper := [
  ⟨some 8, .move (.c (.d (.bool false))), none, []⟩]
def r358_38 : List VOper := [
  ⟨some 100, .move (.t 0), none, []⟩,
  ⟨some 101, .call true (.c (.fn 12 [])) [.t 100], none, [0]⟩,
  ⟨some 102, .move (.t 1), none, []⟩,
  ⟨some 103, .call true (.c (.fn 66 [])) [.t 102], none, [1, 2]⟩,
  ⟨some 104, .move (.t 2), none, []⟩,
  ⟨some 105, .load true 3 (.t 7), none, []⟩,
  ⟨some 106, .call true (.c (.fn 2 [])) [.t 105], none, [3, 5]⟩,
  ⟨some 107, .call true (.c (.fn 137 [])) [.t 101, .t 103, .t 104, .t 106], none, [1, 3, 4, 6]⟩,
  ⟨some 18, .move (.t 107), none, [0, 1, 2, 3, 4, 5, 6, 7]⟩]
def r358_39 : List VOper := [
  ⟨some 108, .move (.t 18), none, []⟩,
  ⟨some 109, .move (.t 10), none, []⟩,
  ⟨some 110, .call true (.c (.fn 69 [])) [.t 108, .t 109], none, []⟩,
  ⟨some 111, .not (.t 110), none, []⟩]
def r358_40 : List VOper := [
  ⟨some 8, .move (.c (.d (.bool false))), none, []⟩]
def r358_41 : List VOper := [
  ⟨some 17, .move (.c (.d (.int .i64 1))), none, []⟩]
def r358_42 : List VOper := [
  ⟨some 112, .move (.t 14), none, []⟩,
  ⟨some 113, .move (.t 17), none, []⟩,
  ⟨some 114, .call false (.c (.fn 291 [])) [.t 112, .t 113], none, []⟩,
  ⟨some 17, .move (.t 114), none, []⟩]
def r358_43 : List VOper := [
  ⟨some 115, .move (.t 17), none, []⟩,
  ⟨some 116, .bin .lss (.t 115) (.c (.d (.int .i64 0))), none, []⟩]
def r358_44 : List VOper := [
  ⟨some 8, .move (.c (.d (.bool false))), none, []⟩]
def r358_45 : List VOper := [
  ⟨some 117, .move (.t 17), none, []⟩,
  ⟨some 118, .move (.t 16), none, []⟩,
  ⟨some 119, .bin .neq (.t 117) (.t 118), none, []⟩]
def r358_46 : List VOper := [
  ⟨some 8, .move (.c (.d (.bool false))), none, []⟩]
def r358_47 : List VOper := [
  ⟨some 8, .move (.c (.d (.bool true))), none, []⟩]
def v358 : VFn := ⟨4, [.tmp 8], (.seq (.region false 1 [0, 1, 2, 7] r358_0) (.seq (.region false 0 [0, 1, 2, 7, 9] r358_1) (.seq (.region false 0 [0, 1, 2, 7, 9] r358_2) (.seq (.seq (.region false 0 [0, 1, 2, 7, 9, 23] r358_3) (.cond (.t 23) (.seq (.region false 0 [8] r358_4) .ret) .skip)) (.seq (.region false 0 [0, 1, 2, 7, 9] r358_5) (.seq (.seq (.region false 0 [0, 1, 2, 7, 9, 28] r358_6) (.cond (.t 28) (.seq (.region false 0 [8] r358_7) .ret) .skip)) (.seq (.region false 0 [0, 1, 2, 7, 9] r358_8) (.seq (.seq (.region false 0 [0, 1, 2, 7, 33] r358_9) (.cond (.t 33) (.seq (.region false 0 [8] r358_10) .ret) .skip)) (.seq (.region true 0 [0, 1, 2, 7, 10] r358_11) (.seq (.region false 0 [0, 1, 2, 7, 10, 11] r358_12) (.seq (.region false 0 [0, 1, 2, 7, 10, 11, 12] r358_13) (.seq (.region false 0 [0, 1, 2, 7, 10, 11, 12, 13] r358_14) (.seq (.region false 0 [0, 1, 2, 7, 10, 11, 12, 13, 14] r358_15) (.seq (.seq (.region false 0 [0, 1, 2, 7, 10, 11, 12, 13, 14, 56] r358_16) (.cond (.t 56) (.seq (.region false 0 [8] r358_17) .ret) .skip)) (.seq (.seq (.region false 0 [0, 1, 2, 7, 10, 11, 12, 13, 14, 61] r358_18) (.cond (.t 61) (.seq (.region false 0 [8] r358_19) .ret) .skip)) (.seq (.seq (.region false 0 [0, 1, 2, 7, 10, 11, 12, 13, 14, 66] r358_20) (.cond (.t 66) (.seq (.region false 0 [8] r358_21) .ret) .skip)) (.seq (.seq (.region true 0 [0, 1, 2, 7, 10, 11, 12, 13, 14, 71] r358_22) (.cond (.t 71) (.seq (.region false 0 [8] r358_23) .ret) .skip)) (.seq (.region false 0 [0, 1, 2, 7, 10, 11, 12, 13, 14, 15] r358_24) (.seq (.region false 0 [0, 1, 2, 7, 10, 12, 13, 14, 15] r358_25) (.seq (.region false 0 [0, 1, 2, 7, 10, 13, 14, 15] r358_26) (.seq (.region false 0 [0, 1, 2, 7, 10, 14, 15] r358_27) (.seq (.seq (.region false 0 [0, 1, 2, 7, 10, 14, 88] r358_28) (.cond (.t 88) (.seq (.region false 0 [8] r358_29) .ret) .skip)) (.seq (.region false 0 [0, 1, 2, 7, 10, 14, 16] r358_30) (.seq (.region false 0 [0, 1, 2, 7, 10, 14, 16] r358_31) (.seq (.region false 0 [0, 1, 2, 7, 10, 14, 16, 17] r358_32) (.seq (.region false 0 [0, 1, 2, 7, 10, 14, 16, 17] r358_33) (.seq (.seq (.region false 0 [0, 1, 2, 7, 10, 14, 16, 17, 96] r358_34) (.cond (.t 96) (.seq (.region false 0 [8] r358_35) .ret) .skip)) (.seq (.seq (.region false 0 [0, 1, 2, 7, 10, 14, 16, 99] r358_36) (.cond (.t 99) (.seq (.region false 0 [8] r358_37) .ret) .skip)) (.seq (.region true 0 [10, 14, 16, 18] r358_38) (.seq (.seq (.region false 0 [14, 16, 111] r358_39) (.cond (.t 111) (.seq (.region false 0 [8] r358_40) .ret) .skip)) (.seq (.region false 0 [14, 16, 17] r358_41) (.seq (.region false 0 [16, 17] r358_42) (.seq (.seq (.region false 0 [16, 17, 116] r358_43) (.cond (.t 116) (.seq (.region false 0 [8] r358_44) .ret) .skip)) (.seq (.seq (.region false 0 [119] r358_45) (.cond (.t 119) (.seq (.region false 0 [8] r358_46) .ret) .skip)) (.seq (.region false 0 [8] r358_47) .ret)))))))))))))))))))))))))))))))))))⟩
def look : List (Nat × VFn) → Nat → Option VFn
  | [], _ => none
  | (k, v) :: r, n => if n = k then some v else look r n
def codes : List (Nat × VFn) := [(1, v1), (2, v2), (3, v3), (5, v5), (6, v6), (7, v7), (8, v8), (9, v9), (11, v11), (12, v12), (15, v15), (16, v16), (17, v17), (20, v20), (29, v29), (30, v30), (31, v31), (33, v33), (34, v34), (65, v65), (66, v66), (69, v69), (75, v75), (76, v76), (84, v84), (86, v86), (87, v87), (88, v88), (135, v135), (137, v137), (141, v141), (142, v142), (144, v144), (145, v145), (146, v146), (147, v147), (148, v148), (149, v149), (150, v150), (151, v151), (152, v152), (153, v153), (154, v154), (167, v167), (168, v168), (170, v170), (171, v171), (172, v172), (173, v173), (174, v174), (175, v175), (243, v243), (244, v244), (291, v291), (292, v292), (293, v293), (294, v294), (308, v308), (358, v358)]
def s169 : SFn := specSF (.region false 2 [0, 3, 4] r169_0) (.region false 0 [0, 3, 4, 5] r169_1) (.seq (.region false 0 [0, 3, 4, 5, 10, 11, 12] r169_2) (.block 0 (.loop [0, 3, 4, 5, 10, 11, 12] b169_0))) (.region false 0 [3, 4, 5, 42] r169_10) 170 6
theorem s169_of : v169 = specFn (.region false 2 [0, 3, 4] r169_0) (.region false 0 [0, 3, 4, 5] r169_1) (.seq (.region false 0 [0, 3, 4, 5, 10, 11, 12] r169_2) (.block 0 (.loop [0, 3, 4, 5, 10, 11, 12] b169_0))) (.region false 0 [3, 4, 5, 42] r169_10) 170 6 := rfl
def specs : List (Nat × SFn) := [(169, s169)]
def nats : List (Nat × (List DV → Option DV)) := []
def E : Env := ⟨look codes, fun k => (lookN nats k).map natV, lookS specs⟩
theorem code_1 : E.code 1 = some v1 := by kernel_rfl
theorem code_2 : E.code 2 = some v2 := by kernel_rfl
theorem code_3 : E.code 3 = some v3 := by kernel_rfl
theorem code_5 : E.code 5 = some v5 := by kernel_rfl
theorem code_6 : E.code 6 = some v6 := by kernel_rfl
theorem code_7 : E.code 7 = some v7 := by kernel_rfl
theorem code_8 : E.code 8 = some v8 := by kernel_rfl
theorem code_9 : E.code 9 = some v9 := by kernel_rfl
theorem code_11 : E.code 11 = some v11 := by kernel_rfl
theorem code_12 : E.code 12 = some v12 := by kernel_rfl
theorem code_15 : E.code 15 = some v15 := by kernel_rfl
theorem code_16 : E.code 16 = some v16 := by kernel_rfl
theorem code_17 : E.code 17 = some v17 := by kernel_rfl
theorem code_20 : E.code 20 = some v20 := by kernel_rfl
theorem code_29 : E.code 29 = some v29 := by kernel_rfl
theorem code_30 : E.code 30 = some v30 := by kernel_rfl
theorem code_31 : E.code 31 = some v31 := by kernel_rfl
theorem code_33 : E.code 33 = some v33 := by kernel_rfl
theorem code_34 : E.code 34 = some v34 := by kernel_rfl
theorem code_65 : E.code 65 = some v65 := by kernel_rfl
theorem code_66 : E.code 66 = some v66 := by kernel_rfl
theorem code_69 : E.code 69 = some v69 := by kernel_rfl
theorem code_75 : E.code 75 = some v75 := by kernel_rfl
theorem code_76 : E.code 76 = some v76 := by kernel_rfl
theorem code_84 : E.code 84 = some v84 := by kernel_rfl
theorem code_86 : E.code 86 = some v86 := by kernel_rfl
theorem code_87 : E.code 87 = some v87 := by kernel_rfl
theorem code_88 : E.code 88 = some v88 := by kernel_rfl
theorem code_135 : E.code 135 = some v135 := by kernel_rfl
theorem code_137 : E.code 137 = some v137 := by kernel_rfl
theorem code_141 : E.code 141 = some v141 := by kernel_rfl
theorem code_142 : E.code 142 = some v142 := by kernel_rfl
theorem code_144 : E.code 144 = some v144 := by kernel_rfl
theorem code_145 : E.code 145 = some v145 := by kernel_rfl
theorem code_146 : E.code 146 = some v146 := by kernel_rfl
theorem code_147 : E.code 147 = some v147 := by kernel_rfl
theorem code_148 : E.code 148 = some v148 := by kernel_rfl
theorem code_149 : E.code 149 = some v149 := by kernel_rfl
theorem code_150 : E.code 150 = some v150 := by kernel_rfl
theorem code_151 : E.code 151 = some v151 := by kernel_rfl
theorem code_152 : E.code 152 = some v152 := by kernel_rfl
theorem code_153 : E.code 153 = some v153 := by kernel_rfl
theorem code_154 : E.code 154 = some v154 := by kernel_rfl
theorem code_167 : E.code 167 = some v167 := by kernel_rfl
theorem code_168 : E.code 168 = some v168 := by kernel_rfl
theorem code_170 : E.code 170 = some v170 := by kernel_rfl
theorem code_171 : E.code 171 = some v171 := by kernel_rfl
theorem code_172 : E.code 172 = some v172 := by kernel_rfl
theorem code_173 : E.code 173 = some v173 := by kernel_rfl
theorem code_174 : E.code 174 = some v174 := by kernel_rfl
theorem code_175 : E.code 175 = some v175 := by kernel_rfl
theorem code_243 : E.code 243 = some v243 := by kernel_rfl
theorem code_244 : E.code 244 = some v244 := by kernel_rfl
theorem code_291 : E.code 291 = some v291 := by kernel_rfl
theorem code_292 : E.code 292 = some v292 := by kernel_rfl
theorem code_293 : E.code 293 = some v293 := by kernel_rfl
theorem code_294 : E.code 294 = some v294 := by kernel_rfl
theorem code_308 : E.code 308 = some v308 := by kernel_rfl
theorem code_358 : E.code 358 = some v358 := by kernel_rfl
end Go.Proofs.Ytnjgnjejkmcgmaa.VS
