/- The code of the functions that the laws reach, for the evaluator. -/
import Derived.Test.YtpmjooeehnmkcaaNat0
import Derived.KernelRfl
namespace Go.Proofs.Ytpmjooeehnmkcaa.VS
set_option linter.unusedVariables false
/-! loop.example/g00461/laws.szTerm -/
def r1_0 : List VOper := [
  ⟨some 2, .box 0 (.t 0), none, []⟩,
  ⟨some 4, .move (.c (.d (.int .i64 0))), none, []⟩]
def r1_1 : List VOper := [
  ⟨some 5, .fieldAddr 2 (.t 2), none, []⟩,
  ⟨some 6, .load false 1 (.t 5), none, []⟩,
  ⟨some 7, .move (.t 1), none, []⟩,
  ⟨some 8, .call true (.c (.fn 9 [])) [.t 6, .t 7], none, []⟩,
  ⟨some 1, .move (.t 8), none, []⟩]
def r1_2 : List VOper := [
  ⟨some 9, .move (.t 1), none, []⟩,
  ⟨some 10, .bin .lss (.t 9) (.c (.d (.int .i64 0))), none, []⟩]
def r1_3 : List VOper := [
  ⟨some 4, .move (.c (.d (.int .i64 (-1)))), none, []⟩]
def r1_4 : List VOper := [
  ⟨some 11, .move (.t 1), none, []⟩,
  ⟨some 4, .move (.t 11), none, []⟩]
def v1 : VFn := ⟨2, [.tmp 4], (.seq (.region false 1 [1, 2] r1_0) (.seq (.region false 0 [1] r1_1) (.seq (.seq (.region false 0 [1, 10] r1_2) (.cond (.t 10) (.seq (.region false 0 [4] r1_3) .ret) .skip)) (.seq (.region false 0 [4] r1_4) .ret))))⟩
/-! loop.example/g00461/laws.toTerm -/
def r2_0 : List VOper := [
  ⟨some 1, .box 0 (.t 0), none, []⟩,
  ⟨some 2, .alloc 1 [.int .i64 0, .int .i64 0, .sl .nil []], none, []⟩]
def r2_1 : List VOper := [
  ⟨some 3, .alloc 0 [.int .i64 0, .int .i64 0, .sl .nil []], none, []⟩]
def r2_2 : List VOper := [
  ⟨some 4, .fieldAddr 0 (.t 1), none, []⟩,
  ⟨some 5, .load false 1 (.t 4), none, []⟩,
  ⟨some 6, .fieldAddr 0 (.t 3), none, []⟩,
  ⟨none, .store false 1 (.t 6) (.t 5), none, []⟩]
def r2_3 : List VOper := [
  ⟨some 7, .fieldAddr 1 (.t 1), none, []⟩,
  ⟨some 8, .load false 1 (.t 7), none, []⟩,
  ⟨some 9, .fieldAddr 1 (.t 3), none, []⟩,
  ⟨none, .store false 1 (.t 9) (.t 8), none, []⟩]
def r2_4 : List VOper := [
  ⟨some 10, .fieldAddr 2 (.t 1), none, []⟩,
  ⟨some 11, .load false 1 (.t 10), none, []⟩,
  ⟨some 12, .call true (.c (.fn 8 [])) [.t 11], none, []⟩,
  ⟨some 13, .fieldAddr 2 (.t 3), none, []⟩,
  ⟨none, .store false 1 (.t 13) (.t 12), none, []⟩]
def r2_5 : List VOper := [
  ⟨some 14, .load true 3 (.t 3), none, []⟩,
  ⟨none, .store false 3 (.t 2) (.t 14), none, []⟩]
def v2 : VFn := ⟨1, [.cell 2 true 3], (.seq (.region false 2 [1, 2] r2_0) (.seq (.region false 1 [1, 2, 3] r2_1) (.seq (.region false 0 [1, 2, 3] r2_2) (.seq (.region false 0 [1, 2, 3] r2_3) (.seq (.region false 0 [2, 3] r2_4) (.seq (.region false 0 [2] r2_5) .ret))))))⟩
/-! loop.example/g00461/spec.TermSame -/
def r3_0 : List VOper := [
  ⟨some 2, .box 0 (.t 0), none, []⟩,
  ⟨some 3, .box 1 (.t 1), none, []⟩,
  ⟨some 4, .move (.c (.d (.bool false))), none, []⟩]
def r3_1 : List VOper := [
  ⟨some 6, .fieldAddr 0 (.t 2), none, []⟩,
  ⟨some 7, .load false 1 (.t 6), none, []⟩,
  ⟨some 8, .fieldAddr 0 (.t 3), none, []⟩,
  ⟨some 9, .load false 1 (.t 8), none, []⟩,
  ⟨some 10, .bin .neq (.t 7) (.t 9), none, []⟩,
  ⟨some 11, .move (.t 10), none, []⟩,
  ⟨some 12, .fieldAddr 1 (.t 2), some (11, false), []⟩,
  ⟨some 13, .load false 1 (.t 12), some (11, false), []⟩,
  ⟨some 14, .fieldAddr 1 (.t 3), some (11, false), []⟩,
  ⟨some 15, .load false 1 (.t 14), some (11, false), []⟩,
  ⟨some 16, .bin .neq (.t 13) (.t 15), some (11, false), []⟩,
  ⟨some 17, .pick (.t 11) (.c (.d (.bool true))) (.t 16), none, []⟩,
  ⟨some 18, .move (.t 17), none, []⟩,
  ⟨some 19, .fieldAddr 2 (.t 2), some (18, false), []⟩,
  ⟨some 20, .load false 1 (.t 19), some (18, false), []⟩,
  ⟨some 21, .len false (.t 20), some (18, false), []⟩,
  ⟨some 22, .fieldAddr 2 (.t 3), some (18, false), []⟩,
  ⟨some 23, .load false 1 (.t 22), some (18, false), []⟩,
  ⟨some 24, .len false (.t 23), some (18, false), []⟩,
  ⟨some 25, .bin .neq (.t 21) (.t 24), some (18, false), []⟩,
  ⟨some 26, .pick (.t 18) (.c (.d (.bool true))) (.t 25), none, []⟩]
def r3_2 : List VOper := [
  ⟨some 4, .move (.c (.d (.bool false))), none, []⟩]
def r3_3 : List VOper := [
  ⟨some 5, .move (.c (.d (.int .i64 0))), none, []⟩]
def r3_4 : List VOper := [
  ⟨some 27, .move (.t 5), none, []⟩,
  ⟨some 28, .fieldAddr 2 (.t 2), none, []⟩,
  ⟨some 29, .load false 1 (.t 28), none, []⟩,
  ⟨some 30, .len false (.t 29), none, []⟩,
  ⟨some 31, .bin .lss (.t 27) (.t 30), none, []⟩]
def r3_6 : List VOper := [
  ⟨some 34, .fieldAddr 2 (.t 2), none, []⟩,
  ⟨some 35, .load false 1 (.t 34), none, [0]⟩,
  ⟨some 36, .move (.t 5), none, []⟩,
  ⟨some 37, .indexAddr 3 none (.t 35) (.t 36), none, [1, 2]⟩,
  ⟨some 38, .load true 3 (.t 37), none, [3]⟩,
  ⟨some 39, .fieldAddr 2 (.t 3), none, []⟩,
  ⟨some 40, .load false 1 (.t 39), none, [5]⟩,
  ⟨some 41, .move (.t 5), none, []⟩,
  ⟨some 42, .indexAddr 3 none (.t 40) (.t 41), none, [6, 7]⟩,
  ⟨some 43, .load true 3 (.t 42), none, [8]⟩,
  ⟨some 44, .call true (.c (.fn 3 [])) [.t 38, .t 43], none, [4, 9]⟩,
  ⟨some 45, .not (.t 44), none, [10]⟩]
def r3_7 : List VOper := [
  ⟨some 4, .move (.c (.d (.bool false))), none, []⟩]
def r3_5 : List VOper := [
  ⟨some 32, .move (.t 5), none, []⟩,
  ⟨some 33, .bin .add (.t 32) (.c (.d (.int .i64 1))), none, []⟩,
  ⟨some 5, .move (.t 33), none, []⟩]
def b3_0 : VCode := (.seq (.seq (.region false 0 [2, 3, 5, 31] r3_4) (.cond (.t 31) .skip (.exit 0))) (.seq (.block 1 (.seq (.region true 0 [2, 3, 5, 45] r3_6) (.cond (.t 45) (.seq (.region false 0 [4] r3_7) .ret) .skip))) (.region false 0 [2, 3, 5] r3_5)))
def r3_8 : List VOper := [
  ⟨some 4, .move (.c (.d (.bool true))), none, []⟩]
def v3 : VFn := ⟨2, [.tmp 4], (.seq (.region false 2 [2, 3] r3_0) (.seq (.seq (.region false 0 [2, 3, 26] r3_1) (.cond (.t 26) (.seq (.region false 0 [4] r3_2) .ret) .skip)) (.seq (.seq (.region false 0 [2, 3, 5] r3_3) (.block 0 (.loop [2, 3, 5] b3_0))) (.seq (.region false 0 [4] r3_8) .ret))))⟩
/-! loop.example/g00461/laws.eqTerm -/
def r5_0 : List VOper := [
  ⟨some 2, .box 0 (.t 0), none, []⟩,
  ⟨some 3, .box 1 (.t 1), none, []⟩,
  ⟨some 4, .move (.c (.d (.bool false))), none, []⟩]
def r5_1 : List VOper := [
  ⟨some 5, .fieldAddr 0 (.t 2), none, []⟩,
  ⟨some 6, .load false 1 (.t 5), none, []⟩,
  ⟨some 7, .fieldAddr 0 (.t 3), none, []⟩,
  ⟨some 8, .load false 1 (.t 7), none, []⟩,
  ⟨some 9, .bin .neq (.t 6) (.t 8), none, []⟩]
def r5_2 : List VOper := [
  ⟨some 4, .move (.c (.d (.bool false))), none, []⟩]
def r5_3 : List VOper := [
  ⟨some 10, .fieldAddr 1 (.t 2), none, []⟩,
  ⟨some 11, .load false 1 (.t 10), none, []⟩,
  ⟨some 12, .fieldAddr 1 (.t 3), none, []⟩,
  ⟨some 13, .load false 1 (.t 12), none, []⟩,
  ⟨some 14, .bin .neq (.t 11) (.t 13), none, []⟩]
def r5_4 : List VOper := [
  ⟨some 4, .move (.c (.d (.bool false))), none, []⟩]
def r5_5 : List VOper := [
  ⟨some 15, .fieldAddr 2 (.t 2), none, []⟩,
  ⟨some 16, .load false 1 (.t 15), none, []⟩,
  ⟨some 17, .fieldAddr 2 (.t 3), none, []⟩,
  ⟨some 18, .load false 1 (.t 17), none, []⟩,
  ⟨some 19, .call true (.c (.fn 7 [])) [.t 16, .t 18], none, []⟩,
  ⟨some 20, .not (.t 19), none, []⟩]
def r5_6 : List VOper := [
  ⟨some 4, .move (.c (.d (.bool false))), none, []⟩]
def r5_7 : List VOper := [
  ⟨some 4, .move (.c (.d (.bool true))), none, []⟩]
def v5 : VFn := ⟨2, [.tmp 4], (.seq (.region false 2 [2, 3] r5_0) (.seq (.seq (.region false 0 [2, 3, 9] r5_1) (.cond (.t 9) (.seq (.region false 0 [4] r5_2) .ret) .skip)) (.seq (.seq (.region false 0 [2, 3, 14] r5_3) (.cond (.t 14) (.seq (.region false 0 [4] r5_4) .ret) .skip)) (.seq (.seq (.region false 0 [20] r5_5) (.cond (.t 20) (.seq (.region false 0 [4] r5_6) .ret) .skip)) (.seq (.region false 0 [4] r5_7) .ret)))))⟩
/-! loop.example/g00461/impl.compare -/
def r6_0 : List VOper := [
  ⟨some 2, .box 0 (.t 0), none, []⟩,
  ⟨some 3, .box 1 (.t 1), none, []⟩,
  ⟨some 4, .move (.c (.d (.int .i64 0))), none, []⟩]
def r6_1 : List VOper := [
  ⟨some 9, .fieldAddr 0 (.t 2), none, []⟩,
  ⟨some 10, .load false 1 (.t 9), none, []⟩,
  ⟨some 11, .fieldAddr 0 (.t 3), none, []⟩,
  ⟨some 12, .load false 1 (.t 11), none, []⟩,
  ⟨some 13, .build [.int .i64 0, .int .i64 0] [(0, 1, .t 10), (1, 1, .t 12)], none, []⟩,
  ⟨some 14, .fieldAddr 1 (.t 2), none, []⟩,
  ⟨some 15, .load false 1 (.t 14), none, []⟩,
  ⟨some 16, .fieldAddr 1 (.t 3), none, []⟩,
  ⟨some 17, .load false 1 (.t 16), none, []⟩,
  ⟨some 18, .build [.int .i64 0, .int .i64 0] [(0, 1, .t 15), (1, 1, .t 17)], none, []⟩,
  ⟨some 19, .fieldAddr 2 (.t 2), none, []⟩,
  ⟨some 20, .load false 1 (.t 19), none, []⟩,
  ⟨some 21, .len false (.t 20), none, []⟩,
  ⟨some 22, .fieldAddr 2 (.t 3), none, []⟩,
  ⟨some 23, .load false 1 (.t 22), none, []⟩,
  ⟨some 24, .len false (.t 23), none, []⟩,
  ⟨some 25, .build [.int .i64 0, .int .i64 0] [(0, 1, .t 21), (1, 1, .t 24)], none, []⟩,
  ⟨some 26, .buildSlice 2 (.agg [.int .i64 0, .int .i64 0]) 3 [(0, .t 13), (1, .t 18), (2, .t 25)], none, []⟩,
  ⟨some 27, .len false (.t 26), none, []⟩,
  ⟨some 28, .move (.c (.d (.int .i64 0))), none, []⟩]
def r6_2 : List VOper := [
  ⟨some 29, .bin .lss (.t 28) (.t 27), none, []⟩]
def r6_3 : List VOper := [
  ⟨some 30, .indexAddr 2 none (.t 26) (.t 28), none, []⟩,
  ⟨some 31, .load true 2 (.t 30), none, []⟩,
  ⟨some 6, .alloc 0 [.int .i64 0, .int .i64 0], none, []⟩,
  ⟨none, .store false 2 (.t 6) (.t 31), none, []⟩]
def r6_4 : List VOper := [
  ⟨some 33, .indexAddr 1 (some 2) (.t 6) (.c (.d (.int .i64 0))), none, []⟩,
  ⟨some 34, .load false 1 (.t 33), none, []⟩,
  ⟨some 35, .indexAddr 1 (some 2) (.t 6) (.c (.d (.int .i64 1))), none, []⟩,
  ⟨some 36, .load false 1 (.t 35), none, []⟩,
  ⟨some 37, .bin .lss (.t 34) (.t 36), none, []⟩,
  ⟨some 32, .move (.t 37), none, []⟩]
def r6_5 : List VOper := [
  ⟨some 4, .move (.c (.d (.int .i64 (-1)))), none, []⟩]
def r6_6 : List VOper := [
  ⟨some 39, .indexAddr 1 (some 2) (.t 6) (.c (.d (.int .i64 0))), none, []⟩,
  ⟨some 40, .load false 1 (.t 39), none, []⟩,
  ⟨some 41, .indexAddr 1 (some 2) (.t 6) (.c (.d (.int .i64 1))), none, []⟩,
  ⟨some 42, .load false 1 (.t 41), none, []⟩,
  ⟨some 43, .bin .gtr (.t 40) (.t 42), none, []⟩,
  ⟨some 38, .move (.t 43), none, []⟩]
def r6_7 : List VOper := [
  ⟨some 4, .move (.c (.d (.int .i64 1))), none, []⟩]
def r6_8 : List VOper := [
  ⟨some 44, .bin .add (.t 28) (.c (.d (.int .i64 1))), none, []⟩,
  ⟨some 28, .move (.t 44), none, []⟩]
def b6_0 : VCode := (.seq (.region false 0 [2, 3, 26, 27, 28, 29] r6_2) (.seq (.cond (.t 29) .skip (.exit 0)) (.seq (.block 1 (.seq (.region false 1 [2, 3, 6, 26, 27, 28] r6_3) (.block 2 (.seq (.region false 0 [2, 3, 6, 26, 27, 28, 32] r6_4) (.cond (.t 32) (.seq (.region false 0 [4] r6_5) .ret) (.seq (.region false 0 [2, 3, 26, 27, 28, 38] r6_6) (.cond (.t 38) (.seq (.region false 0 [4] r6_7) .ret) .skip))))))) (.region false 0 [2, 3, 26, 27, 28] r6_8))))
def r6_9 : List VOper := [
  ⟨some 45, .fieldAddr 2 (.t 2), none, []⟩,
  ⟨some 46, .load false 1 (.t 45), none, []⟩,
  ⟨some 47, .len false (.t 46), none, []⟩,
  ⟨some 48, .move (.c (.d (.int .i64 0))), none, []⟩]
def r6_10 : List VOper := [
  ⟨some 49, .bin .lss (.t 48) (.t 47), none, []⟩]
def r6_11 : List VOper := [
  ⟨some 50, .move (.t 48), none, []⟩,
  ⟨some 7, .move (.t 50), none, []⟩]
def r6_12 : List VOper := [
  ⟨some 51, .fieldAddr 2 (.t 2), none, []⟩,
  ⟨some 52, .load false 1 (.t 51), none, [0]⟩,
  ⟨some 53, .move (.t 7), none, []⟩,
  ⟨some 54, .indexAddr 3 none (.t 52) (.t 53), none, [1, 2]⟩,
  ⟨some 55, .load true 3 (.t 54), none, [3]⟩,
  ⟨some 56, .fieldAddr 2 (.t 3), none, []⟩,
  ⟨some 57, .load false 1 (.t 56), none, [5]⟩,
  ⟨some 58, .move (.t 7), none, []⟩,
  ⟨some 59, .indexAddr 3 none (.t 57) (.t 58), none, [6, 7]⟩,
  ⟨some 60, .load true 3 (.t 59), none, [8]⟩,
  ⟨some 61, .call true (.c (.fn 6 [])) [.t 55, .t 60], none, [4, 9]⟩,
  ⟨some 8, .move (.t 61), none, [0, 1, 2, 3, 4, 5, 6, 7, 8, 9, 10]⟩]
def r6_13 : List VOper := [
  ⟨some 62, .move (.t 8), none, []⟩,
  ⟨some 63, .bin .neq (.t 62) (.c (.d (.int .i64 0))), none, []⟩]
def r6_14 : List VOper := [
  ⟨some 64, .move (.t 8), none, []⟩,
  ⟨some 4, .move (.t 64), none, []⟩]
def r6_15 : List VOper := [
  ⟨some 65, .bin .add (.t 48) (.c (.d (.int .i64 1))), none, []⟩,
  ⟨some 48, .move (.t 65), none, []⟩]
def b6_1 : VCode := (.seq (.region false 0 [2, 3, 47, 48, 49] r6_10) (.seq (.cond (.t 49) .skip (.exit 3)) (.seq (.block 4 (.seq (.region false 0 [2, 3, 7, 47, 48] r6_11) (.seq (.region true 0 [2, 3, 8, 47, 48] r6_12) (.seq (.region false 0 [2, 3, 8, 47, 48, 63] r6_13) (.cond (.t 63) (.seq (.region false 0 [4] r6_14) .ret) .skip))))) (.region false 0 [2, 3, 47, 48] r6_15))))
def r6_16 : List VOper := [
  ⟨some 4, .move (.c (.d (.int .i64 0))), none, []⟩]
def v6 : VFn := ⟨2, [.tmp 4], (.seq (.region false 2 [2, 3] r6_0) (.seq (.seq (.region false 0 [2, 3, 26, 27, 28] r6_1) (.block 0 (.loop [2, 3, 26, 27, 28] b6_0))) (.seq (.seq (.region false 0 [2, 3, 47, 48] r6_9) (.block 3 (.loop [2, 3, 47, 48] b6_1))) (.seq (.region false 0 [4] r6_16) .ret))))⟩
/-! loop.example/g00461/laws.eqTermS -/
def r7_0 : List VOper := [
  ⟨some 4, .move (.c (.d (.bool false))), none, []⟩]
def r7_1 : List VOper := [
  ⟨some 6, .move (.t 0), none, []⟩,
  ⟨some 7, .len false (.t 6), none, []⟩,
  ⟨some 8, .move (.t 1), none, []⟩,
  ⟨some 9, .len false (.t 8), none, []⟩,
  ⟨some 10, .bin .neq (.t 7) (.t 9), none, []⟩]
def r7_2 : List VOper := [
  ⟨some 4, .move (.c (.d (.bool false))), none, []⟩]
def r7_3 : List VOper := [
  ⟨some 5, .move (.c (.d (.int .i64 0))), none, []⟩]
def r7_4 : List VOper := [
  ⟨some 11, .move (.t 5), none, []⟩,
  ⟨some 12, .move (.t 0), none, []⟩,
  ⟨some 13, .len false (.t 12), none, []⟩,
  ⟨some 14, .bin .lss (.t 11) (.t 13), none, []⟩]
def r7_6 : List VOper := [
  ⟨some 17, .move (.t 0), none, []⟩,
  ⟨some 18, .move (.t 5), none, []⟩,
  ⟨some 19, .indexAddr 3 none (.t 17) (.t 18), none, [0, 1]⟩,
  ⟨some 20, .load true 3 (.t 19), none, [2]⟩,
  ⟨some 21, .move (.t 1), none, []⟩,
  ⟨some 22, .move (.t 5), none, []⟩,
  ⟨some 23, .indexAddr 3 none (.t 21) (.t 22), none, [4, 5]⟩,
  ⟨some 24, .load true 3 (.t 23), none, [6]⟩,
  ⟨some 25, .call true (.c (.fn 5 [])) [.t 20, .t 24], none, [3, 7]⟩,
  ⟨some 26, .not (.t 25), none, [8]⟩]
def r7_7 : List VOper := [
  ⟨some 4, .move (.c (.d (.bool false))), none, []⟩]
def r7_5 : List VOper := [
  ⟨some 15, .move (.t 5), none, []⟩,
  ⟨some 16, .bin .add (.t 15) (.c (.d (.int .i64 1))), none, []⟩,
  ⟨some 5, .move (.t 16), none, []⟩]
def b7_0 : VCode := (.seq (.seq (.region false 0 [0, 1, 5, 14] r7_4) (.cond (.t 14) .skip (.exit 0))) (.seq (.block 1 (.seq (.region true 0 [0, 1, 5, 26] r7_6) (.cond (.t 26) (.seq (.region false 0 [4] r7_7) .ret) .skip))) (.region false 0 [0, 1, 5] r7_5)))
def r7_8 : List VOper := [
  ⟨some 4, .move (.c (.d (.bool true))), none, []⟩]
def v7 : VFn := ⟨2, [.tmp 4], (.seq (.region false 0 [0, 1] r7_0) (.seq (.seq (.region false 0 [0, 1, 10] r7_1) (.cond (.t 10) (.seq (.region false 0 [4] r7_2) .ret) .skip)) (.seq (.seq (.region false 0 [0, 1, 5] r7_3) (.block 0 (.loop [0, 1, 5] b7_0))) (.seq (.region false 0 [4] r7_8) .ret))))⟩
/-! loop.example/g00461/laws.toTermS -/
def r8_0 : List VOper := [
  ⟨some 2, .move (.c (.d (.sl .nil []))), none, []⟩]
def r8_1 : List VOper := [
  ⟨some 5, .move (.t 0), none, []⟩,
  ⟨some 6, .len false (.t 5), none, []⟩,
  ⟨some 7, .makeSlice 0 3 40 (.agg [.int .i64 0, .int .i64 0, .sl .nil []]) (.t 6), none, []⟩,
  ⟨some 3, .move (.t 7), none, []⟩]
def r8_2 : List VOper := [
  ⟨some 4, .move (.c (.d (.int .i64 0))), none, []⟩]
def r8_3 : List VOper := [
  ⟨some 8, .move (.t 4), none, []⟩,
  ⟨some 9, .move (.t 0), none, []⟩,
  ⟨some 10, .len false (.t 9), none, []⟩,
  ⟨some 11, .bin .lss (.t 8) (.t 10), none, []⟩]
def r8_5 : List VOper := [
  ⟨some 14, .move (.t 3), none, []⟩,
  ⟨some 15, .move (.t 4), none, []⟩,
  ⟨some 16, .move (.t 0), none, []⟩,
  ⟨some 17, .move (.t 4), none, []⟩,
  ⟨some 18, .indexAddr 3 none (.t 16) (.t 17), none, []⟩,
  ⟨some 19, .load true 3 (.t 18), none, []⟩,
  ⟨some 20, .call true (.c (.fn 2 [])) [.t 19], none, []⟩,
  ⟨some 21, .indexAddr 3 none (.t 14) (.t 15), none, []⟩,
  ⟨none, .store false 3 (.t 21) (.t 20), none, []⟩]
def r8_4 : List VOper := [
  ⟨some 12, .move (.t 4), none, []⟩,
  ⟨some 13, .bin .add (.t 12) (.c (.d (.int .i64 1))), none, []⟩,
  ⟨some 4, .move (.t 13), none, []⟩]
def b8_0 : VCode := (.seq (.seq (.region false 0 [0, 3, 4, 11] r8_3) (.cond (.t 11) .skip (.exit 0))) (.seq (.block 1 (.region false 0 [0, 3, 4] r8_5)) (.region false 0 [0, 3, 4] r8_4)))
def r8_6 : List VOper := [
  ⟨some 22, .move (.t 3), none, []⟩,
  ⟨some 2, .move (.t 22), none, []⟩]
def v8 : VFn := ⟨1, [.tmp 2], (.seq (.region false 0 [0] r8_0) (.seq (.region false 1 [0, 3] r8_1) (.seq (.seq (.region false 0 [0, 3, 4] r8_2) (.block 0 (.loop [0, 3, 4] b8_0))) (.seq (.region false 0 [2] r8_6) .ret))))⟩
/-! loop.example/g00461/laws.szTermS -/
def r9_0 : List VOper := [
  ⟨some 4, .move (.c (.d (.int .i64 0))), none, []⟩]
def r9_1 : List VOper := [
  ⟨some 6, .move (.t 1), none, []⟩,
  ⟨some 7, .move (.t 0), none, []⟩,
  ⟨some 8, .len false (.t 7), none, []⟩,
  ⟨some 9, .bin .sub (.t 6) (.t 8), none, []⟩,
  ⟨some 1, .move (.t 9), none, []⟩]
def r9_2 : List VOper := [
  ⟨some 10, .move (.t 1), none, []⟩,
  ⟨some 11, .bin .lss (.t 10) (.c (.d (.int .i64 0))), none, []⟩]
def r9_3 : List VOper := [
  ⟨some 4, .move (.c (.d (.int .i64 (-1)))), none, []⟩]
def r9_4 : List VOper := [
  ⟨some 5, .move (.c (.d (.int .i64 0))), none, []⟩]
def r9_5 : List VOper := [
  ⟨some 12, .move (.t 5), none, []⟩,
  ⟨some 13, .move (.t 0), none, []⟩,
  ⟨some 14, .len false (.t 13), none, []⟩,
  ⟨some 15, .bin .lss (.t 12) (.t 14), none, []⟩]
def r9_7 : List VOper := [
  ⟨some 18, .move (.t 0), none, []⟩,
  ⟨some 19, .move (.t 5), none, []⟩,
  ⟨some 20, .indexAddr 3 none (.t 18) (.t 19), none, []⟩,
  ⟨some 21, .load true 3 (.t 20), none, []⟩,
  ⟨some 22, .move (.t 1), none, []⟩,
  ⟨some 23, .call true (.c (.fn 1 [])) [.t 21, .t 22], none, []⟩,
  ⟨some 1, .move (.t 23), none, []⟩]
def r9_8 : List VOper := [
  ⟨some 24, .move (.t 1), none, []⟩,
  ⟨some 25, .bin .lss (.t 24) (.c (.d (.int .i64 0))), none, []⟩]
def r9_9 : List VOper := [
  ⟨some 4, .move (.c (.d (.int .i64 (-1)))), none, []⟩]
def r9_6 : List VOper := [
  ⟨some 16, .move (.t 5), none, []⟩,
  ⟨some 17, .bin .add (.t 16) (.c (.d (.int .i64 1))), none, []⟩,
  ⟨some 5, .move (.t 17), none, []⟩]
def b9_0 : VCode := (.seq (.seq (.region false 0 [0, 1, 5, 15] r9_5) (.cond (.t 15) .skip (.exit 0))) (.seq (.block 1 (.seq (.region false 0 [0, 1, 5] r9_7) (.seq (.region false 0 [0, 1, 5, 25] r9_8) (.cond (.t 25) (.seq (.region false 0 [4] r9_9) .ret) .skip)))) (.region false 0 [0, 1, 5] r9_6)))
def r9_10 : List VOper := [
  ⟨some 26, .move (.t 1), none, []⟩,
  ⟨some 4, .move (.t 26), none, []⟩]
def v9 : VFn := ⟨2, [.tmp 4], (.seq (.region false 0 [0, 1] r9_0) (.seq (.region false 0 [0, 1] r9_1) (.seq (.seq (.region false 0 [0, 1, 11] r9_2) (.cond (.t 11) (.seq (.region false 0 [4] r9_3) .ret) .skip)) (.seq (.seq (.region false 0 [0, 1, 5] r9_4) (.block 0 (.loop [0, 1, 5] b9_0))) (.seq (.region false 0 [4] r9_10) .ret)))))⟩
/-! loop.example/g00461/laws.szSymS -/
def r11_0 : List VOper := [
  ⟨some 4, .move (.c (.d (.int .i64 0))), none, []⟩]
def r11_1 : List VOper := [
  ⟨some 6, .move (.t 1), none, []⟩,
  ⟨some 7, .move (.t 0), none, []⟩,
  ⟨some 8, .len false (.t 7), none, []⟩,
  ⟨some 9, .bin .sub (.t 6) (.t 8), none, []⟩,
  ⟨some 1, .move (.t 9), none, []⟩]
def r11_2 : List VOper := [
  ⟨some 10, .move (.t 1), none, []⟩,
  ⟨some 11, .bin .lss (.t 10) (.c (.d (.int .i64 0))), none, []⟩]
def r11_3 : List VOper := [
  ⟨some 4, .move (.c (.d (.int .i64 (-1)))), none, []⟩]
def r11_4 : List VOper := [
  ⟨some 5, .move (.c (.d (.int .i64 0))), none, []⟩]
def r11_5 : List VOper := [
  ⟨some 12, .move (.t 5), none, []⟩,
  ⟨some 13, .move (.t 0), none, []⟩,
  ⟨some 14, .len false (.t 13), none, []⟩,
  ⟨some 15, .bin .lss (.t 12) (.t 14), none, []⟩]
def r11_7 : List VOper := [
  ⟨some 18, .move (.t 0), none, []⟩,
  ⟨some 19, .move (.t 5), none, []⟩,
  ⟨some 20, .indexAddr 3 none (.t 18) (.t 19), none, []⟩,
  ⟨some 21, .load true 3 (.t 20), none, []⟩,
  ⟨some 22, .move (.t 1), none, []⟩,
  ⟨some 23, .call true (.c (.fn 17 [])) [.t 21, .t 22], none, []⟩,
  ⟨some 1, .move (.t 23), none, []⟩]
def r11_8 : List VOper := [
  ⟨some 24, .move (.t 1), none, []⟩,
  ⟨some 25, .bin .lss (.t 24) (.c (.d (.int .i64 0))), none, []⟩]
def r11_9 : List VOper := [
  ⟨some 4, .move (.c (.d (.int .i64 (-1)))), none, []⟩]
def r11_6 : List VOper := [
  ⟨some 16, .move (.t 5), none, []⟩,
  ⟨some 17, .bin .add (.t 16) (.c (.d (.int .i64 1))), none, []⟩,
  ⟨some 5, .move (.t 17), none, []⟩]
def b11_0 : VCode := (.seq (.seq (.region false 0 [0, 1, 5, 15] r11_5) (.cond (.t 15) .skip (.exit 0))) (.seq (.block 1 (.seq (.region false 0 [0, 1, 5] r11_7) (.seq (.region false 0 [0, 1, 5, 25] r11_8) (.cond (.t 25) (.seq (.region false 0 [4] r11_9) .ret) .skip)))) (.region false 0 [0, 1, 5] r11_6)))
def r11_10 : List VOper := [
  ⟨some 26, .move (.t 1), none, []⟩,
  ⟨some 4, .move (.t 26), none, []⟩]
def v11 : VFn := ⟨2, [.tmp 4], (.seq (.region false 0 [0, 1] r11_0) (.seq (.region false 0 [0, 1] r11_1) (.seq (.seq (.region false 0 [0, 1, 11] r11_2) (.cond (.t 11) (.seq (.region false 0 [4] r11_3) .ret) .skip)) (.seq (.seq (.region false 0 [0, 1, 5] r11_4) (.block 0 (.loop [0, 1, 5] b11_0))) (.seq (.region false 0 [4] r11_10) .ret)))))⟩
/-! loop.example/g00461/laws.toSymS -/
def r12_0 : List VOper := [
  ⟨some 2, .move (.c (.d (.sl .nil []))), none, []⟩]
def r12_1 : List VOper := [
  ⟨some 5, .move (.t 0), none, []⟩,
  ⟨some 6, .len false (.t 5), none, []⟩,
  ⟨some 7, .makeSlice 0 3 32 (.agg [.str ⟨#[]⟩, .int .i64 0, .bool false]) (.t 6), none, []⟩,
  ⟨some 3, .move (.t 7), none, []⟩]
def r12_2 : List VOper := [
  ⟨some 4, .move (.c (.d (.int .i64 0))), none, []⟩]
def r12_3 : List VOper := [
  ⟨some 8, .move (.t 4), none, []⟩,
  ⟨some 9, .move (.t 0), none, []⟩,
  ⟨some 10, .len false (.t 9), none, []⟩,
  ⟨some 11, .bin .lss (.t 8) (.t 10), none, []⟩]
def r12_5 : List VOper := [
  ⟨some 14, .move (.t 3), none, []⟩,
  ⟨some 15, .move (.t 4), none, []⟩,
  ⟨some 16, .move (.t 0), none, []⟩,
  ⟨some 17, .move (.t 4), none, []⟩,
  ⟨some 18, .indexAddr 3 none (.t 16) (.t 17), none, []⟩,
  ⟨some 19, .load true 3 (.t 18), none, []⟩,
  ⟨some 20, .call true (.c (.fn 16 [])) [.t 19], none, []⟩,
  ⟨some 21, .indexAddr 3 none (.t 14) (.t 15), none, []⟩,
  ⟨none, .store false 3 (.t 21) (.t 20), none, []⟩]
def r12_4 : List VOper := [
  ⟨some 12, .move (.t 4), none, []⟩,
  ⟨some 13, .bin .add (.t 12) (.c (.d (.int .i64 1))), none, []⟩,
  ⟨some 4, .move (.t 13), none, []⟩]
def b12_0 : VCode := (.seq (.seq (.region false 0 [0, 3, 4, 11] r12_3) (.cond (.t 11) .skip (.exit 0))) (.seq (.block 1 (.region false 0 [0, 3, 4] r12_5)) (.region false 0 [0, 3, 4] r12_4)))
def r12_6 : List VOper := [
  ⟨some 22, .move (.t 3), none, []⟩,
  ⟨some 2, .move (.t 22), none, []⟩]
def v12 : VFn := ⟨1, [.tmp 2], (.seq (.region false 0 [0] r12_0) (.seq (.region false 1 [0, 3] r12_1) (.seq (.seq (.region false 0 [0, 3, 4] r12_2) (.block 0 (.loop [0, 3, 4] b12_0))) (.seq (.region false 0 [2] r12_6) .ret))))⟩
/-! loop.example/g00461/spec.SymOf -/
def r13_0 : List VOper := [
  ⟨some 4, .move (.c (.d (.int .i64 0))), none, []⟩]
def r13_1 : List VOper := [
  ⟨some 5, .move (.c (.d (.int .i64 0))), none, []⟩]
def r13_2 : List VOper := [
  ⟨some 6, .move (.t 5), none, []⟩,
  ⟨some 7, .move (.t 0), none, []⟩,
  ⟨some 8, .len false (.t 7), none, []⟩,
  ⟨some 9, .bin .lss (.t 6) (.t 8), none, []⟩]
def r13_4 : List VOper := [
  ⟨some 12, .move (.t 0), none, []⟩,
  ⟨some 13, .move (.t 5), none, []⟩,
  ⟨some 14, .indexAddr 3 none (.t 12) (.t 13), none, []⟩,
  ⟨some 15, .fieldAddr 0 (.t 14), none, []⟩,
  ⟨some 16, .load false 1 (.t 15), none, []⟩,
  ⟨some 17, .move (.t 1), none, []⟩,
  ⟨some 18, .bin .eql (.t 16) (.t 17), none, []⟩]
def r13_5 : List VOper := [
  ⟨some 19, .move (.t 5), none, []⟩,
  ⟨some 4, .move (.t 19), none, []⟩]
def r13_3 : List VOper := [
  ⟨some 10, .move (.t 5), none, []⟩,
  ⟨some 11, .bin .add (.t 10) (.c (.d (.int .i64 1))), none, []⟩,
  ⟨some 5, .move (.t 11), none, []⟩]
def b13_0 : VCode := (.seq (.seq (.region false 0 [0, 1, 5, 9] r13_2) (.cond (.t 9) .skip (.exit 0))) (.seq (.block 1 (.seq (.region false 0 [0, 1, 5, 18] r13_4) (.cond (.t 18) (.seq (.region false 0 [4] r13_5) .ret) .skip))) (.region false 0 [0, 1, 5] r13_3)))
def r13_6 : List VOper := [
  ⟨some 4, .move (.c (.d (.int .i64 (-1)))), none, []⟩]
def v13 : VFn := ⟨2, [.tmp 4], (.seq (.region false 0 [0, 1] r13_0) (.seq (.seq (.region false 0 [0, 1, 5] r13_1) (.block 0 (.loop [0, 1, 5] b13_0))) (.seq (.region false 0 [4] r13_6) .ret)))⟩
/-! loop.example/g00461/impl.SymOf -/
def r14_0 : List VOper := [
  ⟨some 3, .box 0 (.t 1), none, []⟩,
  ⟨some 4, .move (.c (.d (.int .i64 0))), none, []⟩]
def r14_1 : List VOper := [
  ⟨some 5, .move (.t 0), none, []⟩,
  ⟨some 6, .makeFunc 18 [.t 3], none, []⟩,
  ⟨some 7, .call false (.c (.fn 19 [])) [.t 5, .t 6], none, []⟩,
  ⟨some 4, .move (.t 7), none, []⟩]
def v14 : VFn := ⟨2, [.tmp 4], (.seq (.region false 1 [0, 3] r14_0) (.seq (.region false 0 [4] r14_1) .ret))⟩
/-! loop.example/g00461/laws.eqSymS -/
def r15_0 : List VOper := [
  ⟨some 4, .move (.c (.d (.bool false))), none, []⟩]
def r15_1 : List VOper := [
  ⟨some 6, .move (.t 0), none, []⟩,
  ⟨some 7, .len false (.t 6), none, []⟩,
  ⟨some 8, .move (.t 1), none, []⟩,
  ⟨some 9, .len false (.t 8), none, []⟩,
  ⟨some 10, .bin .neq (.t 7) (.t 9), none, []⟩]
def r15_2 : List VOper := [
  ⟨some 4, .move (.c (.d (.bool false))), none, []⟩]
def r15_3 : List VOper := [
  ⟨some 5, .move (.c (.d (.int .i64 0))), none, []⟩]
def r15_4 : List VOper := [
  ⟨some 11, .move (.t 5), none, []⟩,
  ⟨some 12, .move (.t 0), none, []⟩,
  ⟨some 13, .len false (.t 12), none, []⟩,
  ⟨some 14, .bin .lss (.t 11) (.t 13), none, []⟩]
def r15_6 : List VOper := [
  ⟨some 17, .move (.t 0), none, []⟩,
  ⟨some 18, .move (.t 5), none, []⟩,
  ⟨some 19, .indexAddr 3 none (.t 17) (.t 18), none, [0, 1]⟩,
  ⟨some 20, .load true 3 (.t 19), none, [2]⟩,
  ⟨some 21, .move (.t 1), none, []⟩,
  ⟨some 22, .move (.t 5), none, []⟩,
  ⟨some 23, .indexAddr 3 none (.t 21) (.t 22), none, [4, 5]⟩,
  ⟨some 24, .load true 3 (.t 23), none, [6]⟩,
  ⟨some 25, .call true (.c (.fn 20 [])) [.t 20, .t 24], none, [3, 7]⟩,
  ⟨some 26, .not (.t 25), none, [8]⟩]
def r15_7 : List VOper := [
  ⟨some 4, .move (.c (.d (.bool false))), none, []⟩]
def r15_5 : List VOper := [
  ⟨some 15, .move (.t 5), none, []⟩,
  ⟨some 16, .bin .add (.t 15) (.c (.d (.int .i64 1))), none, []⟩,
  ⟨some 5, .move (.t 16), none, []⟩]
def b15_0 : VCode := (.seq (.seq (.region false 0 [0, 1, 5, 14] r15_4) (.cond (.t 14) .skip (.exit 0))) (.seq (.block 1 (.seq (.region true 0 [0, 1, 5, 26] r15_6) (.cond (.t 26) (.seq (.region false 0 [4] r15_7) .ret) .skip))) (.region false 0 [0, 1, 5] r15_5)))
def r15_8 : List VOper := [
  ⟨some 4, .move (.c (.d (.bool true))), none, []⟩]
def v15 : VFn := ⟨2, [.tmp 4], (.seq (.region false 0 [0, 1] r15_0) (.seq (.seq (.region false 0 [0, 1, 10] r15_1) (.cond (.t 10) (.seq (.region false 0 [4] r15_2) .ret) .skip)) (.seq (.seq (.region false 0 [0, 1, 5] r15_3) (.block 0 (.loop [0, 1, 5] b15_0))) (.seq (.region false 0 [4] r15_8) .ret))))⟩
/-! loop.example/g00461/laws.toSym -/
def r16_0 : List VOper := [
  ⟨some 1, .box 0 (.t 0), none, []⟩,
  ⟨some 2, .alloc 1 [.str ⟨#[]⟩, .int .i64 0, .bool false], none, []⟩]
def r16_1 : List VOper := [
  ⟨some 3, .alloc 0 [.str ⟨#[]⟩, .int .i64 0, .bool false], none, []⟩]
def r16_2 : List VOper := [
  ⟨some 4, .fieldAddr 0 (.t 1), none, []⟩,
  ⟨some 5, .load false 1 (.t 4), none, []⟩,
  ⟨some 6, .fieldAddr 0 (.t 3), none, []⟩,
  ⟨none, .store false 1 (.t 6) (.t 5), none, []⟩]
def r16_3 : List VOper := [
  ⟨some 7, .fieldAddr 1 (.t 1), none, []⟩,
  ⟨some 8, .load false 1 (.t 7), none, []⟩,
  ⟨some 9, .fieldAddr 1 (.t 3), none, []⟩,
  ⟨none, .store false 1 (.t 9) (.t 8), none, []⟩]
def r16_4 : List VOper := [
  ⟨some 10, .fieldAddr 2 (.t 1), none, []⟩,
  ⟨some 11, .load false 1 (.t 10), none, []⟩,
  ⟨some 12, .fieldAddr 2 (.t 3), none, []⟩,
  ⟨none, .store false 1 (.t 12) (.t 11), none, []⟩]
def r16_5 : List VOper := [
  ⟨some 13, .load true 3 (.t 3), none, []⟩,
  ⟨none, .store false 3 (.t 2) (.t 13), none, []⟩]
def v16 : VFn := ⟨1, [.cell 2 true 3], (.seq (.region false 2 [1, 2] r16_0) (.seq (.region false 1 [1, 2, 3] r16_1) (.seq (.region false 0 [1, 2, 3] r16_2) (.seq (.region false 0 [1, 2, 3] r16_3) (.seq (.region false 0 [2, 3] r16_4) (.seq (.region false 0 [2] r16_5) .ret))))))⟩
/-! loop.example/g00461/laws.szSym -/
def r17_0 : List VOper := [
  ⟨some 2, .box 0 (.t 0), none, []⟩,
  ⟨some 4, .move (.c (.d (.int .i64 0))), none, []⟩]
def r17_1 : List VOper := [
  ⟨some 5, .move (.t 1), none, []⟩,
  ⟨some 6, .fieldAddr 0 (.t 2), none, []⟩,
  ⟨some 7, .load false 1 (.t 6), none, []⟩,
  ⟨some 8, .len true (.t 7), none, []⟩,
  ⟨some 9, .bin .sub (.t 5) (.t 8), none, []⟩,
  ⟨some 1, .move (.t 9), none, []⟩]
def r17_2 : List VOper := [
  ⟨some 10, .move (.t 1), none, []⟩,
  ⟨some 11, .bin .lss (.t 10) (.c (.d (.int .i64 0))), none, []⟩]
def r17_3 : List VOper := [
  ⟨some 4, .move (.c (.d (.int .i64 (-1)))), none, []⟩]
def r17_4 : List VOper := [
  ⟨some 12, .move (.t 1), none, []⟩,
  ⟨some 4, .move (.t 12), none, []⟩]
def v17 : VFn := ⟨2, [.tmp 4], (.seq (.region false 1 [1, 2] r17_0) (.seq (.region false 0 [1] r17_1) (.seq (.seq (.region false 0 [1, 11] r17_2) (.cond (.t 11) (.seq (.region false 0 [4] r17_3) .ret) .skip)) (.seq (.region false 0 [4] r17_4) .ret))))⟩
/-! loop.example/g00461/impl.SymOf$1 -/
def r18_0 : List VOper := [
  ⟨some 2, .box 0 (.t 0), none, []⟩,
  ⟨some 3, .move (.c (.d (.bool false))), none, []⟩]
def r18_1 : List VOper := [
  ⟨some 4, .fieldAddr 0 (.t 2), none, []⟩,
  ⟨some 5, .load false 1 (.t 4), none, []⟩,
  ⟨some 6, .load false 1 (.t 1), none, []⟩,
  ⟨some 7, .bin .eql (.t 5) (.t 6), none, []⟩,
  ⟨some 3, .move (.t 7), none, []⟩]
def v18 : VFn := ⟨2, [.tmp 3], (.seq (.region false 1 [1, 2] r18_0) (.seq (.region false 0 [3] r18_1) .ret))⟩
/-! slices.IndexFunc[[]loop.example/g00461/impl.Sym,loop.example/g00461/impl.Sym] -/
def r19_0 : List VOper := [
  ⟨some 4, .move (.c (.d (.int .i64 0))), none, []⟩]
def r19_1 : List VOper := [
  ⟨some 6, .move (.t 0), none, []⟩,
  ⟨some 7, .len false (.t 6), none, []⟩,
  ⟨some 8, .move (.c (.d (.int .i64 0))), none, []⟩]
def r19_2 : List VOper := [
  ⟨some 9, .bin .lss (.t 8) (.t 7), none, []⟩]
def r19_3 : List VOper := [
  ⟨some 10, .move (.t 8), none, []⟩,
  ⟨some 5, .move (.t 10), none, []⟩]
def r19_4 : List VOper := [
  ⟨some 11, .move (.t 1), none, []⟩,
  ⟨some 12, .move (.t 0), none, []⟩,
  ⟨some 13, .move (.t 5), none, []⟩,
  ⟨some 14, .indexAddr 3 none (.t 12) (.t 13), none, []⟩,
  ⟨some 15, .load true 3 (.t 14), none, []⟩,
  ⟨some 16, .call false (.t 11) [.t 15], none, []⟩]
def r19_5 : List VOper := [
  ⟨some 17, .move (.t 5), none, []⟩,
  ⟨some 4, .move (.t 17), none, []⟩]
def r19_6 : List VOper := [
  ⟨some 18, .bin .add (.t 8) (.c (.d (.int .i64 1))), none, []⟩,
  ⟨some 8, .move (.t 18), none, []⟩]
def b19_0 : VCode := (.seq (.region false 0 [0, 1, 7, 8, 9] r19_2) (.seq (.cond (.t 9) .skip (.exit 0)) (.seq (.block 1 (.seq (.region false 0 [0, 1, 5, 7, 8] r19_3) (.seq (.region false 0 [0, 1, 5, 7, 8, 16] r19_4) (.cond (.t 16) (.seq (.region false 0 [4] r19_5) .ret) .skip)))) (.region false 0 [0, 1, 7, 8] r19_6))))
def r19_7 : List VOper := [
  ⟨some 4, .move (.c (.d (.int .i64 (-1)))), none, []⟩]
def v19 : VFn := ⟨2, [.tmp 4], (.seq (.region false 0 [0, 1] r19_0) (.seq (.seq (.region false 0 [0, 1, 7, 8] r19_1) (.block 0 (.loop [0, 1, 7, 8] b19_0))) (.seq (.region false 0 [4] r19_7) .ret)))⟩
/-! loop.example/g00461/laws.eqSym -/
def r20_0 : List VOper := [
  ⟨some 2, .box 0 (.t 0), none, []⟩,
  ⟨some 3, .box 1 (.t 1), none, []⟩,
  ⟨some 4, .move (.c (.d (.bool false))), none, []⟩]
def r20_1 : List VOper := [
  ⟨some 5, .fieldAddr 0 (.t 2), none, []⟩,
  ⟨some 6, .load false 1 (.t 5), none, []⟩,
  ⟨some 7, .fieldAddr 0 (.t 3), none, []⟩,
  ⟨some 8, .load false 1 (.t 7), none, []⟩,
  ⟨some 9, .bin .neq (.t 6) (.t 8), none, []⟩]
def r20_2 : List VOper := [
  ⟨some 4, .move (.c (.d (.bool false))), none, []⟩]
def r20_3 : List VOper := [
  ⟨some 10, .fieldAddr 1 (.t 2), none, []⟩,
  ⟨some 11, .load false 1 (.t 10), none, []⟩,
  ⟨some 12, .fieldAddr 1 (.t 3), none, []⟩,
  ⟨some 13, .load false 1 (.t 12), none, []⟩,
  ⟨some 14, .bin .neq (.t 11) (.t 13), none, []⟩]
def r20_4 : List VOper := [
  ⟨some 4, .move (.c (.d (.bool false))), none, []⟩]
def r20_5 : List VOper := [
  ⟨some 15, .fieldAddr 2 (.t 2), none, []⟩,
  ⟨some 16, .load false 1 (.t 15), none, []⟩,
  ⟨some 17, .fieldAddr 2 (.t 3), none, []⟩,
  ⟨some 18, .load false 1 (.t 17), none, []⟩,
  ⟨some 19, .eqB true (.t 16) (.t 18), none, []⟩]
def r20_6 : List VOper := [
  ⟨some 4, .move (.c (.d (.bool false))), none, []⟩]
def r20_7 : List VOper := [
  ⟨some 4, .move (.c (.d (.bool true))), none, []⟩]
def v20 : VFn := ⟨2, [.tmp 4], (.seq (.region false 2 [2, 3] r20_0) (.seq (.seq (.region false 0 [2, 3, 9] r20_1) (.cond (.t 9) (.seq (.region false 0 [4] r20_2) .ret) .skip)) (.seq (.seq (.region false 0 [2, 3, 14] r20_3) (.cond (.t 14) (.seq (.region false 0 [4] r20_4) .ret) .skip)) (.seq (.seq (.region false 0 [19] r20_5) (.cond (.t 19) (.seq (.region false 0 [4] r20_6) .ret) .skip)) (.seq (.region false 0 [4] r20_7) .ret)))))⟩
/-! loop.example/g00461/spec.Parts -/
def r22_0 : List VOper := [
  ⟨some 1, .box 0 (.t 0), none, []⟩,
  ⟨some 2, .move (.c (.d (.int .i64 0))), none, []⟩]
def r22_1 : List VOper := [
  ⟨some 3, .move (.c (.d (.int .i64 1))), none, []⟩]
def r22_2 : List VOper := [
  ⟨some 4, .move (.c (.d (.int .i64 0))), none, []⟩]
def r22_3 : List VOper := [
  ⟨some 5, .move (.t 4), none, []⟩,
  ⟨some 6, .fieldAddr 2 (.t 1), none, []⟩,
  ⟨some 7, .load false 1 (.t 6), none, []⟩,
  ⟨some 8, .len false (.t 7), none, []⟩,
  ⟨some 9, .bin .lss (.t 5) (.t 8), none, []⟩]
def r22_5 : List VOper := [
  ⟨some 12, .move (.t 3), none, []⟩,
  ⟨some 13, .fieldAddr 2 (.t 1), none, []⟩,
  ⟨some 14, .load false 1 (.t 13), none, []⟩,
  ⟨some 15, .move (.t 4), none, []⟩,
  ⟨some 16, .indexAddr 3 none (.t 14) (.t 15), none, []⟩,
  ⟨some 17, .load true 3 (.t 16), none, []⟩,
  ⟨some 18, .call true (.c (.fn 22 [])) [.t 17], none, []⟩,
  ⟨some 19, .bin .add (.t 12) (.t 18), none, []⟩,
  ⟨some 3, .move (.t 19), none, []⟩]
def r22_4 : List VOper := [
  ⟨some 10, .move (.t 4), none, []⟩,
  ⟨some 11, .bin .add (.t 10) (.c (.d (.int .i64 1))), none, []⟩,
  ⟨some 4, .move (.t 11), none, []⟩]
def b22_0 : VCode := (.seq (.seq (.region false 0 [1, 3, 4, 9] r22_3) (.cond (.t 9) .skip (.exit 0))) (.seq (.block 1 (.region false 0 [1, 3, 4] r22_5)) (.region false 0 [1, 3, 4] r22_4)))
def r22_6 : List VOper := [
  ⟨some 20, .move (.t 3), none, []⟩,
  ⟨some 2, .move (.t 20), none, []⟩]
def v22 : VFn := ⟨1, [.tmp 2], (.seq (.region false 1 [1] r22_0) (.seq (.region false 0 [1, 3] r22_1) (.seq (.seq (.region false 0 [1, 3, 4] r22_2) (.block 0 (.loop [1, 3, 4] b22_0))) (.seq (.region false 0 [2] r22_6) .ret))))⟩
/-! loop.example/g00461/impl.Parts -/
def r23_0 : List VOper := [
  ⟨some 1, .box 0 (.t 0), none, []⟩,
  ⟨some 2, .move (.c (.d (.int .i64 0))), none, []⟩]
def r23_1 : List VOper := [
  ⟨some 3, .alloc 0 [.int .i64 0], none, []⟩,
  ⟨none, .store false 1 (.t 3) (.c (.d (.int .i64 0))), none, []⟩]
def r23_2 : List VOper := [
  ⟨some 4, .load true 3 (.t 1), none, []⟩,
  ⟨some 5, .makeFunc 24 [.t 3], none, []⟩,
  ⟨some 6, .call false (.c (.fn 25 [])) [.t 4, .t 5], none, []⟩]
def r23_3 : List VOper := [
  ⟨some 7, .load false 1 (.t 3), none, []⟩,
  ⟨some 2, .move (.t 7), none, []⟩]
def v23 : VFn := ⟨1, [.tmp 2], (.seq (.region false 1 [1] r23_0) (.seq (.region false 1 [1, 3] r23_1) (.seq (.region false 0 [3] r23_2) (.seq (.region false 0 [2] r23_3) .ret))))⟩
/-! loop.example/g00461/impl.Parts$1 -/
def r24_0 : List VOper := [
  ⟨some 2, .box 0 (.t 0), none, []⟩]
def r24_1 : List VOper := [
  ⟨some 3, .load false 1 (.t 1), none, []⟩,
  ⟨some 4, .bin .add (.t 3) (.c (.d (.int .i64 1))), none, []⟩,
  ⟨none, .store false 1 (.t 1) (.t 4), none, []⟩]
def v24 : VFn := ⟨2, [], (.seq (.region false 1 [1] r24_0) (.region false 0 [] r24_1))⟩
/-! loop.example/g00461/impl.each -/
def r25_0 : List VOper := [
  ⟨some 2, .box 0 (.t 0), none, []⟩]
def r25_1 : List VOper := [
  ⟨some 6, .move (.t 1), none, []⟩,
  ⟨some 7, .load true 3 (.t 2), none, []⟩,
  ⟨some 8, .call false (.t 6) [.t 7], none, []⟩]
def r25_2 : List VOper := [
  ⟨some 9, .fieldAddr 2 (.t 2), none, []⟩,
  ⟨some 10, .load false 1 (.t 9), none, []⟩,
  ⟨some 11, .len false (.t 10), none, []⟩,
  ⟨some 12, .move (.c (.d (.int .i64 0))), none, []⟩]
def r25_3 : List VOper := [
  ⟨some 13, .bin .lss (.t 12) (.t 11), none, []⟩]
def r25_4 : List VOper := [
  ⟨some 14, .indexAddr 3 none (.t 10) (.t 12), none, []⟩,
  ⟨some 15, .load true 3 (.t 14), none, []⟩,
  ⟨some 5, .alloc 0 [.int .i64 0, .int .i64 0, .sl .nil []], none, []⟩,
  ⟨none, .store false 3 (.t 5) (.t 15), none, []⟩]
def r25_5 : List VOper := [
  ⟨some 16, .load true 3 (.t 5), none, []⟩,
  ⟨some 17, .move (.t 1), none, []⟩,
  ⟨some 18, .call false (.c (.fn 25 [])) [.t 16, .t 17], none, []⟩]
def r25_6 : List VOper := [
  ⟨some 19, .bin .add (.t 12) (.c (.d (.int .i64 1))), none, []⟩,
  ⟨some 12, .move (.t 19), none, []⟩]
def b25_0 : VCode := (.seq (.region false 0 [1, 10, 11, 12, 13] r25_3) (.seq (.cond (.t 13) .skip (.exit 0)) (.seq (.block 1 (.seq (.region false 1 [1, 5, 10, 11, 12] r25_4) (.region false 0 [1, 10, 11, 12] r25_5))) (.region false 0 [1, 10, 11, 12] r25_6))))
def v25 : VFn := ⟨2, [], (.seq (.region false 1 [1, 2] r25_0) (.seq (.region false 0 [1, 2] r25_1) (.seq (.region false 0 [1, 10, 11, 12] r25_2) (.block 0 (.loop [1, 10, 11, 12] b25_0)))))⟩
/-! loop.example/g00461/impl.isSym -/
def r29_0 : List VOper := [
  ⟨some 4, .move (.c (.d (.bool false))), none, []⟩]
def r29_1 : List VOper := [
  ⟨some 5, .move (.t 1), none, []⟩,
  ⟨some 6, .move (.t 0), none, []⟩,
  ⟨some 7, .len false (.t 6), none, []⟩,
  ⟨some 8, .bin .sub (.t 7) (.c (.d (.int .i64 1))), none, []⟩,
  ⟨some 9, .call true (.c (.fn 30 [])) [.t 5, .c (.d (.int .i64 0)), .t 8], none, []⟩,
  ⟨some 4, .move (.t 9), none, []⟩]
def v29 : VFn := ⟨2, [.tmp 4], (.seq (.region false 0 [0, 1] r29_0) (.seq (.region false 0 [4] r29_1) .ret))⟩
/-! loop.example/g00461/impl.from -/
def r30_0 : List VOper := [
  ⟨some 6, .move (.c (.d (.bool false))), none, []⟩]
def r30_1 : List VOper := [
  ⟨some 7, .move (.t 0), none, []⟩,
  ⟨some 8, .move (.t 1), none, []⟩,
  ⟨some 9, .bin .geq (.t 7) (.t 8), none, []⟩,
  ⟨some 10, .move (.t 9), none, []⟩,
  ⟨some 11, .move (.t 0), some (10, true), []⟩,
  ⟨some 12, .move (.t 2), some (10, true), []⟩,
  ⟨some 13, .bin .leq (.t 11) (.t 12), some (10, true), []⟩,
  ⟨some 14, .pick (.t 10) (.t 13) (.c (.d (.bool false))), none, []⟩,
  ⟨some 6, .move (.t 14), none, []⟩]
def v30 : VFn := ⟨3, [.tmp 6], (.seq (.region false 0 [0, 1, 2] r30_0) (.seq (.region false 0 [6] r30_1) .ret))⟩
/-! loop.example/g00461/spec.l1In -/
def r31_0 : List VOper := [
  ⟨some 6, .move (.c (.d (.bool false))), none, []⟩]
def r31_1 : List VOper := [
  ⟨some 7, .move (.t 0), none, []⟩,
  ⟨some 8, .move (.t 1), none, []⟩,
  ⟨some 9, .bin .geq (.t 7) (.t 8), none, []⟩,
  ⟨some 10, .move (.t 9), none, []⟩,
  ⟨some 11, .move (.t 0), some (10, true), []⟩,
  ⟨some 12, .move (.t 2), some (10, true), []⟩,
  ⟨some 13, .bin .leq (.t 11) (.t 12), some (10, true), []⟩,
  ⟨some 14, .pick (.t 10) (.t 13) (.c (.d (.bool false))), none, []⟩,
  ⟨some 6, .move (.t 14), none, []⟩]
def v31 : VFn := ⟨3, [.tmp 6], (.seq (.region false 0 [0, 1, 2] r31_0) (.seq (.region false 0 [6] r31_1) .ret))⟩
/-! loop.example/g00461/spec.Blind -/
def r33_0 : List VOper := [
  ⟨some 4, .move (.c (.d (.bool false))), none, []⟩]
def r33_1 : List VOper := [
  ⟨some 5, .move (.t 1), none, []⟩,
  ⟨some 6, .move (.t 0), none, []⟩,
  ⟨some 7, .len false (.t 6), none, []⟩,
  ⟨some 8, .bin .sub (.t 7) (.c (.d (.int .i64 1))), none, []⟩,
  ⟨some 9, .call true (.c (.fn 31 [])) [.t 5, .c (.d (.int .i64 0)), .t 8], none, []⟩,
  ⟨some 10, .move (.t 9), none, []⟩,
  ⟨some 11, .move (.t 0), some (10, true), []⟩,
  ⟨some 12, .move (.t 1), some (10, true), []⟩,
  ⟨some 13, .indexAddr 3 none (.t 11) (.t 12), some (10, true), []⟩,
  ⟨some 14, .fieldAddr 2 (.t 13), some (10, true), []⟩,
  ⟨some 15, .load false 1 (.t 14), some (10, true), []⟩,
  ⟨some 16, .pick (.t 10) (.t 15) (.c (.d (.bool false))), none, []⟩,
  ⟨some 4, .move (.t 16), none, []⟩]
def v33 : VFn := ⟨2, [.tmp 4], (.seq (.region false 0 [0, 1] r33_0) (.seq (.region false 0 [4] r33_1) .ret))⟩
/-! loop.example/g00461/impl.Blind -/
def r34_0 : List VOper := [
  ⟨some 4, .move (.c (.d (.bool false))), none, []⟩]
def r34_1 : List VOper := [
  ⟨some 5, .move (.t 0), none, []⟩,
  ⟨some 6, .move (.t 1), none, []⟩,
  ⟨some 7, .call true (.c (.fn 29 [])) [.t 5, .t 6], none, []⟩,
  ⟨some 8, .move (.t 7), none, []⟩,
  ⟨some 9, .move (.t 0), some (8, true), []⟩,
  ⟨some 10, .move (.t 1), some (8, true), []⟩,
  ⟨some 11, .indexAddr 3 none (.t 9) (.t 10), some (8, true), []⟩,
  ⟨some 12, .fieldAddr 2 (.t 11), some (8, true), []⟩,
  ⟨some 13, .load false 1 (.t 12), some (8, true), []⟩,
  ⟨some 14, .pick (.t 8) (.t 13) (.c (.d (.bool false))), none, []⟩,
  ⟨some 4, .move (.t 14), none, []⟩]
def v34 : VFn := ⟨2, [.tmp 4], (.seq (.region false 0 [0, 1] r34_0) (.seq (.region false 0 [4] r34_1) .ret))⟩
/-! loop.example/g00461/impl.Digits -/
def r38_0 : List VOper := [
  ⟨some 2, .move (.c (.d (.str ⟨#[]⟩))), none, []⟩]
def r38_1 : List VOper := [
  ⟨some 4, .move (.t 0), none, []⟩,
  ⟨some 5, .bin .lss (.t 4) (.c (.d (.int .i64 0))), none, []⟩,
  ⟨some 6, .move (.t 5), none, []⟩,
  ⟨some 7, .move (.t 0), some (6, true), []⟩,
  ⟨some 8, .bin .gtr (.t 7) (.c (.d (.int .i64 (-10)))), some (6, true), []⟩,
  ⟨some 9, .pick (.t 6) (.t 8) (.c (.d (.bool false))), none, []⟩,
  ⟨some 3, .move (.t 9), none, []⟩]
def r38_2 : List VOper := [
  ⟨some 10, .move (.t 0), none, []⟩,
  ⟨some 11, .bin .sub (.c (.d (.int .i64 0))) (.t 10), none, []⟩,
  ⟨some 12, .call true (.c (.fn 38 [])) [.t 11], none, []⟩,
  ⟨some 13, .bin .add (.c (.d (.str ⟨#[45]⟩))) (.t 12), none, []⟩,
  ⟨some 2, .move (.t 13), none, []⟩]
def r38_3 : List VOper := [
  ⟨some 15, .move (.t 0), none, []⟩,
  ⟨some 16, .bin .lss (.t 15) (.c (.d (.int .i64 0))), none, []⟩,
  ⟨some 14, .move (.t 16), none, []⟩]
def r38_4 : List VOper := [
  ⟨some 17, .move (.t 0), none, []⟩,
  ⟨some 18, .bin .quo (.t 17) (.c (.d (.int .i64 10))), none, []⟩,
  ⟨some 19, .call true (.c (.fn 38 [])) [.t 18], none, []⟩,
  ⟨some 20, .move (.t 0), none, []⟩,
  ⟨some 21, .bin .rem (.t 20) (.c (.d (.int .i64 10))), none, []⟩,
  ⟨some 22, .bin .sub (.c (.d (.int .i64 0))) (.t 21), none, []⟩,
  ⟨some 23, .call true (.c (.fn 38 [])) [.t 22], none, []⟩,
  ⟨some 24, .bin .add (.t 19) (.t 23), none, []⟩,
  ⟨some 2, .move (.t 24), none, []⟩]
def r38_5 : List VOper := [
  ⟨some 26, .move (.t 0), none, []⟩,
  ⟨some 27, .bin .lss (.t 26) (.c (.d (.int .i64 10))), none, []⟩,
  ⟨some 25, .move (.t 27), none, []⟩]
def r38_6 : List VOper := [
  ⟨some 28, .move (.t 0), none, []⟩,
  ⟨some 29, .bin .add (.c (.d (.int .i64 48))) (.t 28), none, []⟩,
  ⟨some 30, .conv (.kind .i32) (.t 29), none, []⟩,
  ⟨some 31, .conv .rune (.t 30), none, []⟩,
  ⟨some 2, .move (.t 31), none, []⟩]
def r38_7 : List VOper := [
  ⟨some 32, .move (.t 0), none, []⟩,
  ⟨some 33, .bin .quo (.t 32) (.c (.d (.int .i64 10))), none, []⟩,
  ⟨some 34, .call true (.c (.fn 38 [])) [.t 33], none, []⟩,
  ⟨some 35, .move (.t 0), none, []⟩,
  ⟨some 36, .bin .rem (.t 35) (.c (.d (.int .i64 10))), none, []⟩,
  ⟨some 37, .bin .add (.c (.d (.int .i64 48))) (.t 36), none, []⟩,
  ⟨some 38, .conv (.kind .i32) (.t 37), none, []⟩,
  ⟨some 39, .conv .rune (.t 38), none, []⟩,
  ⟨some 40, .bin .add (.t 34) (.t 39), none, []⟩,
  ⟨some 2, .move (.t 40), none, []⟩]
def v38 : VFn := ⟨1, [.tmp 2], (.seq (.region false 0 [0] r38_0) (.seq (.block 0 (.seq (.region false 0 [0, 3] r38_1) (.cond (.t 3) (.seq (.region false 0 [2] r38_2) .ret) (.seq (.region false 0 [0, 14] r38_3) (.cond (.t 14) (.seq (.region false 0 [2] r38_4) .ret) (.seq (.region false 0 [0, 25] r38_5) (.cond (.t 25) (.seq (.region false 0 [2] r38_6) .ret) .skip))))))) (.seq (.region false 0 [2] r38_7) .ret)))⟩
/-! loop.example/g00461/spec.Digits -/
def r39_0 : List VOper := [
  ⟨some 2, .move (.c (.d (.str ⟨#[]⟩))), none, []⟩]
def r39_1 : List VOper := [
  ⟨some 6, .move (.t 0), none, []⟩,
  ⟨some 7, .bin .eql (.t 6) (.c (.d (.int .i64 0))), none, []⟩]
def r39_2 : List VOper := [
  ⟨some 2, .move (.c (.d (.str ⟨#[48]⟩))), none, []⟩]
def r39_3 : List VOper := [
  ⟨some 8, .move (.t 0), none, []⟩,
  ⟨some 9, .bin .lss (.t 8) (.c (.d (.int .i64 0))), none, []⟩,
  ⟨some 3, .move (.t 9), none, []⟩]
def r39_4 : List VOper := [
  ⟨some 4, .move (.c (.d (.str ⟨#[]⟩))), none, []⟩]
def r39_5 : List VOper := [
  ⟨some 10, .move (.t 0), none, []⟩,
  ⟨some 11, .bin .neq (.t 10) (.c (.d (.int .i64 0))), none, []⟩]
def r39_6 : List VOper := [
  ⟨some 12, .move (.t 0), none, []⟩,
  ⟨some 13, .bin .rem (.t 12) (.c (.d (.int .i64 10))), none, []⟩,
  ⟨some 5, .move (.t 13), none, []⟩]
def r39_7 : List VOper := [
  ⟨some 14, .move (.t 5), none, []⟩,
  ⟨some 15, .bin .lss (.t 14) (.c (.d (.int .i64 0))), none, []⟩]
def r39_8 : List VOper := [
  ⟨some 16, .move (.t 5), none, []⟩,
  ⟨some 17, .bin .sub (.c (.d (.int .i64 0))) (.t 16), none, []⟩,
  ⟨some 5, .move (.t 17), none, []⟩]
def r39_9 : List VOper := [
  ⟨some 18, .move (.t 5), none, []⟩,
  ⟨some 19, .bin .add (.c (.d (.int .i64 48))) (.t 18), none, []⟩,
  ⟨some 20, .conv (.kind .u8) (.t 19), none, []⟩,
  ⟨some 21, .buildSlice 1 (.int .u8 0) 1 [(0, .t 20)], none, []⟩,
  ⟨some 22, .conv .bytes (.t 21), none, []⟩,
  ⟨some 23, .move (.t 4), none, []⟩,
  ⟨some 24, .bin .add (.t 22) (.t 23), none, []⟩,
  ⟨some 4, .move (.t 24), none, []⟩]
def r39_10 : List VOper := [
  ⟨some 25, .move (.t 0), none, []⟩,
  ⟨some 26, .bin .quo (.t 25) (.c (.d (.int .i64 10))), none, []⟩,
  ⟨some 0, .move (.t 26), none, []⟩]
def b39_0 : VCode := (.seq (.seq (.region false 0 [0, 3, 4, 11] r39_5) (.cond (.t 11) .skip (.exit 0))) (.block 1 (.seq (.region false 0 [0, 3, 4, 5] r39_6) (.seq (.seq (.region false 0 [0, 3, 4, 5, 15] r39_7) (.cond (.t 15) (.region false 0 [0, 3, 4, 5] r39_8) .skip)) (.seq (.region false 0 [0, 3, 4] r39_9) (.region false 0 [0, 3, 4] r39_10))))))
def r39_11 : List VOper := [
  ⟨some 27, .move (.t 3), none, []⟩]
def r39_12 : List VOper := [
  ⟨some 28, .move (.t 4), none, []⟩,
  ⟨some 29, .bin .add (.c (.d (.str ⟨#[45]⟩))) (.t 28), none, []⟩,
  ⟨some 2, .move (.t 29), none, []⟩]
def r39_13 : List VOper := [
  ⟨some 30, .move (.t 4), none, []⟩,
  ⟨some 2, .move (.t 30), none, []⟩]
def v39 : VFn := ⟨1, [.tmp 2], (.seq (.region false 0 [0] r39_0) (.seq (.seq (.region false 0 [0, 7] r39_1) (.cond (.t 7) (.seq (.region false 0 [2] r39_2) .ret) .skip)) (.seq (.region false 0 [0, 3] r39_3) (.seq (.region false 0 [0, 3, 4] r39_4) (.seq (.block 0 (.loop [0, 3, 4] b39_0)) (.seq (.seq (.region false 0 [4, 27] r39_11) (.cond (.t 27) (.seq (.region false 0 [2] r39_12) .ret) .skip)) (.seq (.region false 0 [2] r39_13) .ret)))))))⟩
/-! loop.example/g00461/laws.toIntS -/
def r41_0 : List VOper := [
  ⟨some 2, .move (.c (.d (.sl .nil []))), none, []⟩]
def r41_1 : List VOper := [
  ⟨some 5, .move (.t 0), none, []⟩,
  ⟨some 6, .len false (.t 5), none, []⟩,
  ⟨some 7, .makeSlice 0 1 8 (.int .i64 0) (.t 6), none, []⟩,
  ⟨some 3, .move (.t 7), none, []⟩]
def r41_2 : List VOper := [
  ⟨some 4, .move (.c (.d (.int .i64 0))), none, []⟩]
def r41_3 : List VOper := [
  ⟨some 8, .move (.t 4), none, []⟩,
  ⟨some 9, .move (.t 0), none, []⟩,
  ⟨some 10, .len false (.t 9), none, []⟩,
  ⟨some 11, .bin .lss (.t 8) (.t 10), none, []⟩]
def r41_5 : List VOper := [
  ⟨some 14, .move (.t 3), none, []⟩,
  ⟨some 15, .move (.t 4), none, []⟩,
  ⟨some 16, .move (.t 0), none, []⟩,
  ⟨some 17, .move (.t 4), none, []⟩,
  ⟨some 18, .indexAddr 1 none (.t 16) (.t 17), none, []⟩,
  ⟨some 19, .load false 1 (.t 18), none, []⟩,
  ⟨some 20, .indexAddr 1 none (.t 14) (.t 15), none, []⟩,
  ⟨none, .store false 1 (.t 20) (.t 19), none, []⟩]
def r41_4 : List VOper := [
  ⟨some 12, .move (.t 4), none, []⟩,
  ⟨some 13, .bin .add (.t 12) (.c (.d (.int .i64 1))), none, []⟩,
  ⟨some 4, .move (.t 13), none, []⟩]
def b41_0 : VCode := (.seq (.seq (.region false 0 [0, 3, 4, 11] r41_3) (.cond (.t 11) .skip (.exit 0))) (.seq (.block 1 (.region false 0 [0, 3, 4] r41_5)) (.region false 0 [0, 3, 4] r41_4)))
def r41_6 : List VOper := [
  ⟨some 21, .move (.t 3), none, []⟩,
  ⟨some 2, .move (.t 21), none, []⟩]
def v41 : VFn := ⟨1, [.tmp 2], (.seq (.region false 0 [0] r41_0) (.seq (.region false 1 [0, 3] r41_1) (.seq (.seq (.region false 0 [0, 3, 4] r41_2) (.block 0 (.loop [0, 3, 4] b41_0))) (.seq (.region false 0 [2] r41_6) .ret))))⟩
/-! loop.example/g00461/laws.eqIntS -/
def r44_0 : List VOper := [
  ⟨some 4, .move (.c (.d (.bool false))), none, []⟩]
def r44_1 : List VOper := [
  ⟨some 6, .move (.t 0), none, []⟩,
  ⟨some 7, .len false (.t 6), none, []⟩,
  ⟨some 8, .move (.t 1), none, []⟩,
  ⟨some 9, .len false (.t 8), none, []⟩,
  ⟨some 10, .bin .neq (.t 7) (.t 9), none, []⟩]
def r44_2 : List VOper := [
  ⟨some 4, .move (.c (.d (.bool false))), none, []⟩]
def r44_3 : List VOper := [
  ⟨some 5, .move (.c (.d (.int .i64 0))), none, []⟩]
def r44_4 : List VOper := [
  ⟨some 11, .move (.t 5), none, []⟩,
  ⟨some 12, .move (.t 0), none, []⟩,
  ⟨some 13, .len false (.t 12), none, []⟩,
  ⟨some 14, .bin .lss (.t 11) (.t 13), none, []⟩]
def r44_6 : List VOper := [
  ⟨some 17, .move (.t 0), none, []⟩,
  ⟨some 18, .move (.t 5), none, []⟩,
  ⟨some 19, .indexAddr 1 none (.t 17) (.t 18), none, [0, 1]⟩,
  ⟨some 20, .load false 1 (.t 19), none, [2]⟩,
  ⟨some 21, .move (.t 1), none, []⟩,
  ⟨some 22, .move (.t 5), none, []⟩,
  ⟨some 23, .indexAddr 1 none (.t 21) (.t 22), none, [4, 5]⟩,
  ⟨some 24, .load false 1 (.t 23), none, [6]⟩,
  ⟨some 25, .bin .neq (.t 20) (.t 24), none, [3, 7]⟩]
def r44_7 : List VOper := [
  ⟨some 4, .move (.c (.d (.bool false))), none, []⟩]
def r44_5 : List VOper := [
  ⟨some 15, .move (.t 5), none, []⟩,
  ⟨some 16, .bin .add (.t 15) (.c (.d (.int .i64 1))), none, []⟩,
  ⟨some 5, .move (.t 16), none, []⟩]
def b44_0 : VCode := (.seq (.seq (.region false 0 [0, 1, 5, 14] r44_4) (.cond (.t 14) .skip (.exit 0))) (.seq (.block 1 (.seq (.region true 0 [0, 1, 5, 25] r44_6) (.cond (.t 25) (.seq (.region false 0 [4] r44_7) .ret) .skip))) (.region false 0 [0, 1, 5] r44_5)))
def r44_8 : List VOper := [
  ⟨some 4, .move (.c (.d (.bool true))), none, []⟩]
def v44 : VFn := ⟨2, [.tmp 4], (.seq (.region false 0 [0, 1] r44_0) (.seq (.seq (.region false 0 [0, 1, 10] r44_1) (.cond (.t 10) (.seq (.region false 0 [4] r44_2) .ret) .skip)) (.seq (.seq (.region false 0 [0, 1, 5] r44_3) (.block 0 (.loop [0, 1, 5] b44_0))) (.seq (.region false 0 [4] r44_8) .ret))))⟩
/-! slices.IndexFunc[[]int,int] -/
def r47_0 : List VOper := [
  ⟨some 4, .move (.c (.d (.int .i64 0))), none, []⟩]
def r47_1 : List VOper := [
  ⟨some 6, .move (.t 0), none, []⟩,
  ⟨some 7, .len false (.t 6), none, []⟩,
  ⟨some 8, .move (.c (.d (.int .i64 0))), none, []⟩]
def r47_2 : List VOper := [
  ⟨some 9, .bin .lss (.t 8) (.t 7), none, []⟩]
def r47_3 : List VOper := [
  ⟨some 10, .move (.t 8), none, []⟩,
  ⟨some 5, .move (.t 10), none, []⟩]
def r47_4 : List VOper := [
  ⟨some 11, .move (.t 1), none, []⟩,
  ⟨some 12, .move (.t 0), none, []⟩,
  ⟨some 13, .move (.t 5), none, []⟩,
  ⟨some 14, .indexAddr 1 none (.t 12) (.t 13), none, []⟩,
  ⟨some 15, .load false 1 (.t 14), none, []⟩,
  ⟨some 16, .call false (.t 11) [.t 15], none, []⟩]
def r47_5 : List VOper := [
  ⟨some 17, .move (.t 5), none, []⟩,
  ⟨some 4, .move (.t 17), none, []⟩]
def r47_6 : List VOper := [
  ⟨some 18, .bin .add (.t 8) (.c (.d (.int .i64 1))), none, []⟩,
  ⟨some 8, .move (.t 18), none, []⟩]
def b47_0 : VCode := (.seq (.region false 0 [0, 1, 7, 8, 9] r47_2) (.seq (.cond (.t 9) .skip (.exit 0)) (.seq (.block 1 (.seq (.region false 0 [0, 1, 5, 7, 8] r47_3) (.seq (.region false 0 [0, 1, 5, 7, 8, 16] r47_4) (.cond (.t 16) (.seq (.region false 0 [4] r47_5) .ret) .skip)))) (.region false 0 [0, 1, 7, 8] r47_6))))
def r47_7 : List VOper := [
  ⟨some 4, .move (.c (.d (.int .i64 (-1)))), none, []⟩]
def v47 : VFn := ⟨2, [.tmp 4], (.seq (.region false 0 [0, 1] r47_0) (.seq (.seq (.region false 0 [0, 1, 7, 8] r47_1) (.block 0 (.loop [0, 1, 7, 8] b47_0))) (.seq (.region false 0 [4] r47_7) .ret)))⟩
/-! loop.example/g00461/spec.NumIn -/
def r53_0 : List VOper := [
  ⟨some 4, .move (.c (.d (.bool false))), none, []⟩]
def r53_1 : List VOper := [
  ⟨some 5, .move (.c (.d (.int .i64 0))), none, []⟩]
def r53_2 : List VOper := [
  ⟨some 6, .move (.t 5), none, []⟩,
  ⟨some 7, .move (.t 0), none, []⟩,
  ⟨some 8, .len false (.t 7), none, []⟩,
  ⟨some 9, .bin .lss (.t 6) (.t 8), none, []⟩]
def r53_4 : List VOper := [
  ⟨some 12, .move (.t 0), none, []⟩,
  ⟨some 13, .move (.t 5), none, []⟩,
  ⟨some 14, .indexAddr 1 none (.t 12) (.t 13), none, []⟩,
  ⟨some 15, .load false 1 (.t 14), none, []⟩,
  ⟨some 16, .move (.t 1), none, []⟩,
  ⟨some 17, .bin .eql (.t 15) (.t 16), none, []⟩]
def r53_5 : List VOper := [
  ⟨some 4, .move (.c (.d (.bool true))), none, []⟩]
def r53_3 : List VOper := [
  ⟨some 10, .move (.t 5), none, []⟩,
  ⟨some 11, .bin .add (.t 10) (.c (.d (.int .i64 1))), none, []⟩,
  ⟨some 5, .move (.t 11), none, []⟩]
def b53_0 : VCode := (.seq (.seq (.region false 0 [0, 1, 5, 9] r53_2) (.cond (.t 9) .skip (.exit 0))) (.seq (.block 1 (.seq (.region false 0 [0, 1, 5, 17] r53_4) (.cond (.t 17) (.seq (.region false 0 [4] r53_5) .ret) .skip))) (.region false 0 [0, 1, 5] r53_3)))
def r53_6 : List VOper := [
  ⟨some 4, .move (.c (.d (.bool false))), none, []⟩]
def v53 : VFn := ⟨2, [.tmp 4], (.seq (.region false 0 [0, 1] r53_0) (.seq (.seq (.region false 0 [0, 1, 5] r53_1) (.block 0 (.loop [0, 1, 5] b53_0))) (.seq (.region false 0 [4] r53_6) .ret)))⟩
/-! loop.example/g00461/impl.NumIn -/
def r54_0 : List VOper := [
  ⟨some 4, .move (.c (.d (.bool false))), none, []⟩]
def r54_1 : List VOper := [
  ⟨some 5, .move (.t 0), none, []⟩,
  ⟨some 6, .move (.t 1), none, []⟩,
  ⟨some 7, .call true (.c (.fn 55 [])) [.t 5, .t 6], none, []⟩,
  ⟨some 4, .move (.t 7), none, []⟩]
def v54 : VFn := ⟨2, [.tmp 4], (.seq (.region false 0 [0, 1] r54_0) (.seq (.region false 0 [4] r54_1) .ret))⟩
/-! slices.Contains[[]int,int] -/
def r55_0 : List VOper := [
  ⟨some 4, .move (.c (.d (.bool false))), none, []⟩]
def r55_1 : List VOper := [
  ⟨some 5, .move (.t 0), none, []⟩,
  ⟨some 6, .move (.t 1), none, []⟩,
  ⟨some 7, .call true (.c (.fn 56 [])) [.t 5, .t 6], none, []⟩,
  ⟨some 8, .bin .geq (.t 7) (.c (.d (.int .i64 0))), none, []⟩,
  ⟨some 4, .move (.t 8), none, []⟩]
def v55 : VFn := ⟨2, [.tmp 4], (.seq (.region false 0 [0, 1] r55_0) (.seq (.region false 0 [4] r55_1) .ret))⟩
/-! slices.Index[[]int,int] -/
def r56_0 : List VOper := [
  ⟨some 4, .move (.c (.d (.int .i64 0))), none, []⟩]
def r56_1 : List VOper := [
  ⟨some 6, .move (.t 0), none, []⟩,
  ⟨some 7, .len false (.t 6), none, []⟩,
  ⟨some 8, .move (.c (.d (.int .i64 0))), none, []⟩]
def r56_2 : List VOper := [
  ⟨some 9, .bin .lss (.t 8) (.t 7), none, []⟩]
def r56_3 : List VOper := [
  ⟨some 10, .move (.t 8), none, []⟩,
  ⟨some 5, .move (.t 10), none, []⟩]
def r56_4 : List VOper := [
  ⟨some 11, .move (.t 1), none, []⟩,
  ⟨some 12, .move (.t 0), none, []⟩,
  ⟨some 13, .move (.t 5), none, []⟩,
  ⟨some 14, .indexAddr 1 none (.t 12) (.t 13), none, []⟩,
  ⟨some 15, .load false 1 (.t 14), none, []⟩,
  ⟨some 16, .bin .eql (.t 11) (.t 15), none, []⟩]
def r56_5 : List VOper := [
  ⟨some 17, .move (.t 5), none, []⟩,
  ⟨some 4, .move (.t 17), none, []⟩]
def r56_6 : List VOper := [
  ⟨some 18, .bin .add (.t 8) (.c (.d (.int .i64 1))), none, []⟩,
  ⟨some 8, .move (.t 18), none, []⟩]
def b56_0 : VCode := (.seq (.region false 0 [0, 1, 7, 8, 9] r56_2) (.seq (.cond (.t 9) .skip (.exit 0)) (.seq (.block 1 (.seq (.region false 0 [0, 1, 5, 7, 8] r56_3) (.seq (.region false 0 [0, 1, 5, 7, 8, 16] r56_4) (.cond (.t 16) (.seq (.region false 0 [4] r56_5) .ret) .skip)))) (.region false 0 [0, 1, 7, 8] r56_6))))
def r56_7 : List VOper := [
  ⟨some 4, .move (.c (.d (.int .i64 (-1)))), none, []⟩]
def v56 : VFn := ⟨2, [.tmp 4], (.seq (.region false 0 [0, 1] r56_0) (.seq (.seq (.region false 0 [0, 1, 7, 8] r56_1) (.block 0 (.loop [0, 1, 7, 8] b56_0))) (.seq (.region false 0 [4] r56_7) .ret)))⟩
/-! loop.example/g00461/spec.NameOk -/
def r59_0 : List VOper := [
  ⟨some 2, .move (.c (.d (.bool false))), none, []⟩]
def r59_1 : List VOper := [
  ⟨some 3, .move (.c (.d (.int .i64 0))), none, []⟩]
def r59_2 : List VOper := [
  ⟨some 4, .move (.t 3), none, []⟩,
  ⟨some 5, .move (.t 0), none, []⟩,
  ⟨some 6, .len true (.t 5), none, []⟩,
  ⟨some 7, .bin .lss (.t 4) (.t 6), none, []⟩]
def r59_4 : List VOper := [
  ⟨some 10, .move (.t 0), none, []⟩,
  ⟨some 11, .move (.t 3), none, []⟩,
  ⟨some 12, .index (.t 10) (.t 11), none, []⟩,
  ⟨some 13, .bin .geq (.t 12) (.c (.d (.int .u8 97))), none, []⟩,
  ⟨some 14, .move (.t 13), none, []⟩,
  ⟨some 15, .move (.t 0), some (14, true), []⟩,
  ⟨some 16, .move (.t 3), some (14, true), []⟩,
  ⟨some 17, .index (.t 15) (.t 16), some (14, true), []⟩,
  ⟨some 18, .bin .leq (.t 17) (.c (.d (.int .u8 122))), some (14, true), []⟩,
  ⟨some 19, .pick (.t 14) (.t 18) (.c (.d (.bool false))), none, []⟩,
  ⟨some 20, .move (.t 19), none, []⟩,
  ⟨some 21, .move (.t 3), some (20, false), []⟩,
  ⟨some 22, .bin .gtr (.t 21) (.c (.d (.int .i64 0))), some (20, false), []⟩,
  ⟨some 23, .move (.t 22), some (20, false), []⟩,
  ⟨some 24, .move (.t 0), some (23, true), []⟩,
  ⟨some 25, .move (.t 3), some (23, true), []⟩,
  ⟨some 26, .index (.t 24) (.t 25), some (23, true), []⟩,
  ⟨some 27, .bin .geq (.t 26) (.c (.d (.int .u8 48))), some (23, true), []⟩,
  ⟨some 28, .pick (.t 23) (.t 27) (.c (.d (.bool false))), some (20, false), []⟩,
  ⟨some 29, .move (.t 28), some (20, false), []⟩,
  ⟨some 30, .move (.t 0), some (29, true), []⟩,
  ⟨some 31, .move (.t 3), some (29, true), []⟩,
  ⟨some 32, .index (.t 30) (.t 31), some (29, true), []⟩,
  ⟨some 33, .bin .leq (.t 32) (.c (.d (.int .u8 57))), some (29, true), []⟩,
  ⟨some 34, .pick (.t 29) (.t 33) (.c (.d (.bool false))), some (20, false), []⟩,
  ⟨some 35, .pick (.t 20) (.c (.d (.bool true))) (.t 34), none, []⟩,
  ⟨some 36, .not (.t 35), none, []⟩]
def r59_5 : List VOper := [
  ⟨some 2, .move (.c (.d (.bool false))), none, []⟩]
def r59_3 : List VOper := [
  ⟨some 8, .move (.t 3), none, []⟩,
  ⟨some 9, .bin .add (.t 8) (.c (.d (.int .i64 1))), none, []⟩,
  ⟨some 3, .move (.t 9), none, []⟩]
def b59_0 : VCode := (.seq (.seq (.region false 0 [0, 3, 7] r59_2) (.cond (.t 7) .skip (.exit 0))) (.seq (.block 1 (.seq (.region false 0 [0, 3, 36] r59_4) (.cond (.t 36) (.seq (.region false 0 [2] r59_5) .ret) .skip))) (.region false 0 [0, 3] r59_3)))
def r59_6 : List VOper := [
  ⟨some 37, .move (.t 0), none, []⟩,
  ⟨some 38, .len true (.t 37), none, []⟩,
  ⟨some 39, .call true (.c (.fn 31 [])) [.t 38, .c (.d (.int .i64 1)), .c (.d (.int .i64 8))], none, []⟩,
  ⟨some 2, .move (.t 39), none, []⟩]
def v59 : VFn := ⟨1, [.tmp 2], (.seq (.region false 0 [0] r59_0) (.seq (.seq (.region false 0 [0, 3] r59_1) (.block 0 (.loop [0, 3] b59_0))) (.seq (.region false 0 [2] r59_6) .ret)))⟩
/-! loop.example/g00461/impl.NameOk -/
def r60_0 : List VOper := [
  ⟨some 2, .move (.c (.d (.bool false))), none, []⟩]
def r60_1 : List VOper := [
  ⟨some 4, .move (.t 0), none, []⟩,
  ⟨some 5, .len true (.t 4), none, []⟩,
  ⟨some 6, .move (.c (.d (.int .i64 0))), none, []⟩]
def r60_2 : List VOper := [
  ⟨some 7, .bin .lss (.t 6) (.t 5), none, []⟩]
def r60_3 : List VOper := [
  ⟨some 8, .move (.t 6), none, []⟩,
  ⟨some 3, .move (.t 8), none, []⟩]
def r60_4 : List VOper := [
  ⟨some 9, .move (.t 0), none, []⟩,
  ⟨some 10, .move (.t 3), none, []⟩,
  ⟨some 11, .index (.t 9) (.t 10), none, []⟩,
  ⟨some 12, .call true (.c (.fn 61 [])) [.t 11], none, []⟩,
  ⟨some 13, .not (.t 12), none, []⟩,
  ⟨some 14, .move (.t 13), none, []⟩,
  ⟨some 15, .move (.t 0), some (14, true), []⟩,
  ⟨some 16, .move (.t 3), some (14, true), []⟩,
  ⟨some 17, .index (.t 15) (.t 16), some (14, true), []⟩,
  ⟨some 18, .call true (.c (.fn 62 [])) [.t 17], some (14, true), []⟩,
  ⟨some 19, .not (.t 18), some (14, true), []⟩,
  ⟨some 20, .pick (.t 14) (.t 19) (.c (.d (.bool false))), none, []⟩]
def r60_5 : List VOper := [
  ⟨some 2, .move (.c (.d (.bool false))), none, []⟩]
def r60_6 : List VOper := [
  ⟨some 21, .bin .add (.t 6) (.c (.d (.int .i64 1))), none, []⟩,
  ⟨some 6, .move (.t 21), none, []⟩]
def b60_0 : VCode := (.seq (.region false 0 [0, 5, 6, 7] r60_2) (.seq (.cond (.t 7) .skip (.exit 0)) (.seq (.block 1 (.seq (.region false 0 [0, 3, 5, 6] r60_3) (.seq (.region false 0 [0, 5, 6, 20] r60_4) (.cond (.t 20) (.seq (.region false 0 [2] r60_5) .ret) .skip)))) (.region false 0 [0, 5, 6] r60_6))))
def r60_7 : List VOper := [
  ⟨some 22, .move (.t 0), none, []⟩,
  ⟨some 23, .len true (.t 22), none, []⟩,
  ⟨some 24, .call true (.c (.fn 30 [])) [.t 23, .c (.d (.int .i64 1)), .c (.d (.int .i64 8))], none, []⟩,
  ⟨some 25, .move (.t 24), none, []⟩,
  ⟨some 26, .move (.t 0), some (25, true), []⟩,
  ⟨some 27, .index (.t 26) (.c (.d (.int .i64 0))), some (25, true), []⟩,
  ⟨some 28, .call true (.c (.fn 61 [])) [.t 27], some (25, true), []⟩,
  ⟨some 29, .pick (.t 25) (.t 28) (.c (.d (.bool false))), none, []⟩,
  ⟨some 2, .move (.t 29), none, []⟩]
def v60 : VFn := ⟨1, [.tmp 2], (.seq (.region false 0 [0] r60_0) (.seq (.seq (.region false 0 [0, 5, 6] r60_1) (.block 0 (.loop [0, 5, 6] b60_0))) (.seq (.region false 0 [2] r60_7) .ret)))⟩
/-! loop.example/g00461/impl.isSmall -/
def r61_0 : List VOper := [
  ⟨some 2, .move (.c (.d (.bool false))), none, []⟩]
def r61_1 : List VOper := [
  ⟨some 3, .move (.t 0), none, []⟩,
  ⟨some 4, .bin .geq (.t 3) (.c (.d (.int .u8 97))), none, []⟩,
  ⟨some 5, .move (.t 4), none, []⟩,
  ⟨some 6, .move (.t 0), some (5, true), []⟩,
  ⟨some 7, .bin .leq (.t 6) (.c (.d (.int .u8 122))), some (5, true), []⟩,
  ⟨some 8, .pick (.t 5) (.t 7) (.c (.d (.bool false))), none, []⟩,
  ⟨some 2, .move (.t 8), none, []⟩]
def v61 : VFn := ⟨1, [.tmp 2], (.seq (.region false 0 [0] r61_0) (.seq (.region false 0 [2] r61_1) .ret))⟩
/-! loop.example/g00461/impl.isDigit -/
def r62_0 : List VOper := [
  ⟨some 2, .move (.c (.d (.bool false))), none, []⟩]
def r62_1 : List VOper := [
  ⟨some 3, .move (.t 0), none, []⟩,
  ⟨some 4, .bin .geq (.t 3) (.c (.d (.int .u8 48))), none, []⟩,
  ⟨some 5, .move (.t 4), none, []⟩,
  ⟨some 6, .move (.t 0), some (5, true), []⟩,
  ⟨some 7, .bin .leq (.t 6) (.c (.d (.int .u8 57))), some (5, true), []⟩,
  ⟨some 8, .pick (.t 5) (.t 7) (.c (.d (.bool false))), none, []⟩,
  ⟨some 2, .move (.t 8), none, []⟩]
def v62 : VFn := ⟨1, [.tmp 2], (.seq (.region false 0 [0] r62_0) (.seq (.region false 0 [2] r62_1) .ret))⟩
/-! loop.example/g00461/laws.FnExactSubOk -/
def r64_0 : List VOper := [
  ⟨some 4, .move (.c (.d (.bool false))), none, []⟩]
def r64_1 : List VOper := [
  ⟨some 5, .move (.c (.d (.int .i64 1048576))), none, []⟩]
def r64_2 : List VOper := [
  ⟨some 10, .move (.t 0), none, []⟩,
  ⟨some 11, .move (.t 5), none, []⟩,
  ⟨some 12, .call true (.c (.fn 11 [])) [.t 10, .t 11], none, []⟩,
  ⟨some 5, .move (.t 12), none, []⟩]
def r64_3 : List VOper := [
  ⟨some 13, .move (.t 5), none, []⟩,
  ⟨some 14, .bin .lss (.t 13) (.c (.d (.int .i64 0))), none, []⟩]
def r64_4 : List VOper := [
  ⟨some 4, .move (.c (.d (.bool true))), none, []⟩]
def r64_5 : List VOper := [
  ⟨some 15, .move (.t 1), none, []⟩,
  ⟨some 16, .move (.t 5), none, []⟩,
  ⟨some 17, .call true (.c (.fn 65 [])) [.t 15, .t 16], none, []⟩,
  ⟨some 5, .move (.t 17), none, []⟩]
def r64_6 : List VOper := [
  ⟨some 18, .move (.t 5), none, []⟩,
  ⟨some 19, .bin .lss (.t 18) (.c (.d (.int .i64 0))), none, []⟩]
def r64_7 : List VOper := [
  ⟨some 4, .move (.c (.d (.bool true))), none, []⟩]
def r64_8 : List VOper := [
  ⟨some 20, .move (.t 0), none, []⟩,
  ⟨some 21, .call true (.c (.fn 12 [])) [.t 20], none, []⟩,
  ⟨some 22, .move (.t 1), none, []⟩,
  ⟨some 23, .call true (.c (.fn 66 [])) [.t 22], none, []⟩,
  ⟨some 24, .call true (.c (.fn 67 [])) [.t 21, .t 23], none, []⟩,
  ⟨some 6, .move (.t 24), none, []⟩]
def r64_9 : List VOper := [
  ⟨some 25, .move (.t 0), none, []⟩,
  ⟨some 26, .call true (.c (.fn 12 [])) [.t 25], none, []⟩,
  ⟨some 7, .move (.t 26), none, []⟩]
def r64_10 : List VOper := [
  ⟨some 27, .move (.t 1), none, []⟩,
  ⟨some 28, .call true (.c (.fn 66 [])) [.t 27], none, []⟩,
  ⟨some 8, .move (.t 28), none, []⟩]
def r64_11 : List VOper := [
  ⟨some 29, .move (.t 7), none, []⟩,
  ⟨some 30, .move (.t 8), none, []⟩,
  ⟨some 31, .call true (.c (.fn 68 [])) [.t 29, .t 30], none, []⟩,
  ⟨some 9, .move (.t 31), none, []⟩]
def r64_12 : List VOper := [
  ⟨some 32, .move (.t 9), none, []⟩,
  ⟨some 33, .move (.t 6), none, []⟩,
  ⟨some 34, .eqB true (.t 32) (.t 33), none, []⟩]
def r64_13 : List VOper := [
  ⟨some 4, .move (.c (.d (.bool false))), none, []⟩]
def r64_14 : List VOper := [
  ⟨some 35, .move (.t 7), none, []⟩,
  ⟨some 36, .move (.t 0), none, []⟩,
  ⟨some 37, .call true (.c (.fn 12 [])) [.t 36], none, []⟩,
  ⟨some 38, .call true (.c (.fn 15 [])) [.t 35, .t 37], none, []⟩,
  ⟨some 39, .not (.t 38), none, []⟩]
def r64_15 : List VOper := [
  ⟨some 4, .move (.c (.d (.bool false))), none, []⟩]
def r64_16 : List VOper := [
  ⟨some 40, .move (.t 8), none, []⟩,
  ⟨some 41, .move (.t 1), none, []⟩,
  ⟨some 42, .call true (.c (.fn 66 [])) [.t 41], none, []⟩,
  ⟨some 43, .call true (.c (.fn 69 [])) [.t 40, .t 42], none, []⟩,
  ⟨some 44, .not (.t 43), none, []⟩]
def r64_17 : List VOper := [
  ⟨some 4, .move (.c (.d (.bool false))), none, []⟩]
def r64_18 : List VOper := [
  ⟨some 4, .move (.c (.d (.bool true))), none, []⟩]
def v64 : VFn := ⟨2, [.tmp 4], (.seq (.region false 0 [0, 1] r64_0) (.seq (.region false 0 [0, 1, 5] r64_1) (.seq (.region false 0 [0, 1, 5] r64_2) (.seq (.seq (.region false 0 [0, 1, 5, 14] r64_3) (.cond (.t 14) (.seq (.region false 0 [4] r64_4) .ret) .skip)) (.seq (.region false 0 [0, 1, 5] r64_5) (.seq (.seq (.region false 0 [0, 1, 19] r64_6) (.cond (.t 19) (.seq (.region false 0 [4] r64_7) .ret) .skip)) (.seq (.region false 0 [0, 1, 6] r64_8) (.seq (.region false 0 [0, 1, 6, 7] r64_9) (.seq (.region false 0 [0, 1, 6, 7, 8] r64_10) (.seq (.region false 0 [0, 1, 6, 7, 8, 9] r64_11) (.seq (.seq (.region false 0 [0, 1, 7, 8, 34] r64_12) (.cond (.t 34) (.seq (.region false 0 [4] r64_13) .ret) .skip)) (.seq (.seq (.region false 0 [1, 8, 39] r64_14) (.cond (.t 39) (.seq (.region false 0 [4] r64_15) .ret) .skip)) (.seq (.seq (.region false 0 [44] r64_16) (.cond (.t 44) (.seq (.region false 0 [4] r64_17) .ret) .skip)) (.seq (.region false 0 [4] r64_18) .ret))))))))))))))⟩
/-! loop.example/g00461/laws.szBindS -/
def r65_0 : List VOper := [
  ⟨some 4, .move (.c (.d (.int .i64 0))), none, []⟩]
def r65_1 : List VOper := [
  ⟨some 6, .move (.t 1), none, []⟩,
  ⟨some 7, .move (.t 0), none, []⟩,
  ⟨some 8, .len false (.t 7), none, []⟩,
  ⟨some 9, .bin .sub (.t 6) (.t 8), none, []⟩,
  ⟨some 1, .move (.t 9), none, []⟩]
def r65_2 : List VOper := [
  ⟨some 10, .move (.t 1), none, []⟩,
  ⟨some 11, .bin .lss (.t 10) (.c (.d (.int .i64 0))), none, []⟩]
def r65_3 : List VOper := [
  ⟨some 4, .move (.c (.d (.int .i64 (-1)))), none, []⟩]
def r65_4 : List VOper := [
  ⟨some 5, .move (.c (.d (.int .i64 0))), none, []⟩]
def r65_5 : List VOper := [
  ⟨some 12, .move (.t 5), none, []⟩,
  ⟨some 13, .move (.t 0), none, []⟩,
  ⟨some 14, .len false (.t 13), none, []⟩,
  ⟨some 15, .bin .lss (.t 12) (.t 14), none, []⟩]
def r65_7 : List VOper := [
  ⟨some 18, .move (.t 0), none, []⟩,
  ⟨some 19, .move (.t 5), none, []⟩,
  ⟨some 20, .indexAddr 4 none (.t 18) (.t 19), none, []⟩,
  ⟨some 21, .load true 4 (.t 20), none, []⟩,
  ⟨some 22, .move (.t 1), none, []⟩,
  ⟨some 23, .call true (.c (.fn 88 [])) [.t 21, .t 22], none, []⟩,
  ⟨some 1, .move (.t 23), none, []⟩]
def r65_8 : List VOper := [
  ⟨some 24, .move (.t 1), none, []⟩,
  ⟨some 25, .bin .lss (.t 24) (.c (.d (.int .i64 0))), none, []⟩]
def r65_9 : List VOper := [
  ⟨some 4, .move (.c (.d (.int .i64 (-1)))), none, []⟩]
def r65_6 : List VOper := [
  ⟨some 16, .move (.t 5), none, []⟩,
  ⟨some 17, .bin .add (.t 16) (.c (.d (.int .i64 1))), none, []⟩,
  ⟨some 5, .move (.t 17), none, []⟩]
def b65_0 : VCode := (.seq (.seq (.region false 0 [0, 1, 5, 15] r65_5) (.cond (.t 15) .skip (.exit 0))) (.seq (.block 1 (.seq (.region false 0 [0, 1, 5] r65_7) (.seq (.region false 0 [0, 1, 5, 25] r65_8) (.cond (.t 25) (.seq (.region false 0 [4] r65_9) .ret) .skip)))) (.region false 0 [0, 1, 5] r65_6)))
def r65_10 : List VOper := [
  ⟨some 26, .move (.t 1), none, []⟩,
  ⟨some 4, .move (.t 26), none, []⟩]
def v65 : VFn := ⟨2, [.tmp 4], (.seq (.region false 0 [0, 1] r65_0) (.seq (.region false 0 [0, 1] r65_1) (.seq (.seq (.region false 0 [0, 1, 11] r65_2) (.cond (.t 11) (.seq (.region false 0 [4] r65_3) .ret) .skip)) (.seq (.seq (.region false 0 [0, 1, 5] r65_4) (.block 0 (.loop [0, 1, 5] b65_0))) (.seq (.region false 0 [4] r65_10) .ret)))))⟩
/-! loop.example/g00461/laws.toBindS -/
def r66_0 : List VOper := [
  ⟨some 2, .move (.c (.d (.sl .nil []))), none, []⟩]
def r66_1 : List VOper := [
  ⟨some 5, .move (.t 0), none, []⟩,
  ⟨some 6, .len false (.t 5), none, []⟩,
  ⟨some 7, .makeSlice 0 4 48 (.agg [.int .i64 0, .int .i64 0, .int .i64 0, .sl .nil []]) (.t 6), none, []⟩,
  ⟨some 3, .move (.t 7), none, []⟩]
def r66_2 : List VOper := [
  ⟨some 4, .move (.c (.d (.int .i64 0))), none, []⟩]
def r66_3 : List VOper := [
  ⟨some 8, .move (.t 4), none, []⟩,
  ⟨some 9, .move (.t 0), none, []⟩,
  ⟨some 10, .len false (.t 9), none, []⟩,
  ⟨some 11, .bin .lss (.t 8) (.t 10), none, []⟩]
def r66_5 : List VOper := [
  ⟨some 14, .move (.t 3), none, []⟩,
  ⟨some 15, .move (.t 4), none, []⟩,
  ⟨some 16, .move (.t 0), none, []⟩,
  ⟨some 17, .move (.t 4), none, []⟩,
  ⟨some 18, .indexAddr 4 none (.t 16) (.t 17), none, []⟩,
  ⟨some 19, .load true 4 (.t 18), none, []⟩,
  ⟨some 20, .call true (.c (.fn 87 [])) [.t 19], none, []⟩,
  ⟨some 21, .indexAddr 4 none (.t 14) (.t 15), none, []⟩,
  ⟨none, .store false 4 (.t 21) (.t 20), none, []⟩]
def r66_4 : List VOper := [
  ⟨some 12, .move (.t 4), none, []⟩,
  ⟨some 13, .bin .add (.t 12) (.c (.d (.int .i64 1))), none, []⟩,
  ⟨some 4, .move (.t 13), none, []⟩]
def b66_0 : VCode := (.seq (.seq (.region false 0 [0, 3, 4, 11] r66_3) (.cond (.t 11) .skip (.exit 0))) (.seq (.block 1 (.region false 0 [0, 3, 4] r66_5)) (.region false 0 [0, 3, 4] r66_4)))
def r66_6 : List VOper := [
  ⟨some 22, .move (.t 3), none, []⟩,
  ⟨some 2, .move (.t 22), none, []⟩]
def v66 : VFn := ⟨1, [.tmp 2], (.seq (.region false 0 [0] r66_0) (.seq (.region false 1 [0, 3] r66_1) (.seq (.seq (.region false 0 [0, 3, 4] r66_2) (.block 0 (.loop [0, 3, 4] b66_0))) (.seq (.region false 0 [2] r66_6) .ret))))⟩
/-! loop.example/g00461/spec.SubOk -/
def r67_0 : List VOper := [
  ⟨some 4, .move (.c (.d (.bool false))), none, []⟩]
def r67_1 : List VOper := [
  ⟨some 5, .move (.c (.d (.int .i64 0))), none, []⟩]
def r67_2 : List VOper := [
  ⟨some 7, .move (.t 5), none, []⟩,
  ⟨some 8, .move (.t 1), none, []⟩,
  ⟨some 9, .len false (.t 8), none, []⟩,
  ⟨some 10, .bin .lss (.t 7) (.t 9), none, []⟩]
def r67_4 : List VOper := [
  ⟨some 13, .move (.t 1), none, []⟩,
  ⟨some 14, .move (.t 5), none, []⟩,
  ⟨some 15, .indexAddr 4 none (.t 13) (.t 14), none, [0, 1]⟩,
  ⟨some 16, .fieldAddr 0 (.t 15), none, [2]⟩,
  ⟨some 17, .load false 1 (.t 16), none, [3]⟩,
  ⟨some 18, .call true (.c (.fn 31 [])) [.t 17, .c (.d (.int .i64 0)), .c (.d (.int .i64 99))], none, [4]⟩,
  ⟨some 19, .not (.t 18), none, [5]⟩,
  ⟨some 20, .move (.t 19), none, [5, 6]⟩,
  ⟨some 21, .move (.t 5), some (20, false), [7]⟩,
  ⟨some 22, .bin .gtr (.t 21) (.c (.d (.int .i64 0))), some (20, false), [7, 8]⟩,
  ⟨some 23, .move (.t 22), some (20, false), [7, 9]⟩,
  ⟨some 24, .move (.t 1), some (23, true), [10]⟩,
  ⟨some 25, .move (.t 5), some (23, true), [10]⟩,
  ⟨some 26, .bin .sub (.t 25) (.c (.d (.int .i64 1))), some (23, true), [10, 12]⟩,
  ⟨some 27, .indexAddr 4 none (.t 24) (.t 26), some (23, true), [10, 11, 13]⟩,
  ⟨some 28, .fieldAddr 0 (.t 27), some (23, true), [10, 14]⟩,
  ⟨some 29, .load false 1 (.t 28), some (23, true), [10, 15]⟩,
  ⟨some 30, .move (.t 1), some (23, true), [10]⟩,
  ⟨some 31, .move (.t 5), some (23, true), [10]⟩,
  ⟨some 32, .indexAddr 4 none (.t 30) (.t 31), some (23, true), [10, 17, 18]⟩,
  ⟨some 33, .fieldAddr 0 (.t 32), some (23, true), [10, 19]⟩,
  ⟨some 34, .load false 1 (.t 33), some (23, true), [10, 20]⟩,
  ⟨some 35, .bin .geq (.t 29) (.t 34), some (23, true), [10, 16, 21]⟩,
  ⟨some 36, .pick (.t 23) (.t 35) (.c (.d (.bool false))), some (20, false), [7, 10, 22]⟩,
  ⟨some 37, .pick (.t 20) (.c (.d (.bool true))) (.t 36), none, [7, 23]⟩,
  ⟨some 38, .move (.t 37), none, [10, 24]⟩,
  ⟨some 39, .move (.t 0), some (38, false), [25]⟩,
  ⟨some 40, .move (.t 1), some (38, false), [25]⟩,
  ⟨some 41, .move (.t 5), some (38, false), [25]⟩,
  ⟨some 42, .indexAddr 4 none (.t 40) (.t 41), some (38, false), [25, 27, 28]⟩,
  ⟨some 43, .fieldAddr 1 (.t 42), some (38, false), [25, 29]⟩,
  ⟨some 44, .load true 3 (.t 43), some (38, false), [25, 30]⟩,
  ⟨some 45, .call true (.c (.fn 80 [])) [.t 39, .t 44], some (38, false), [25, 26, 31]⟩,
  ⟨some 46, .not (.t 45), some (38, false), [25, 32]⟩,
  ⟨some 47, .pick (.t 38) (.c (.d (.bool true))) (.t 46), none, [25, 33]⟩]
def r67_5 : List VOper := [
  ⟨some 4, .move (.c (.d (.bool false))), none, []⟩]
def r67_6 : List VOper := [
  ⟨some 6, .move (.c (.d (.int .i64 0))), none, []⟩]
def r67_7 : List VOper := [
  ⟨some 48, .move (.t 6), none, []⟩,
  ⟨some 49, .move (.t 1), none, []⟩,
  ⟨some 50, .len false (.t 49), none, []⟩,
  ⟨some 51, .bin .lss (.t 48) (.t 50), none, []⟩]
def r67_9 : List VOper := [
  ⟨some 54, .move (.t 1), none, []⟩,
  ⟨some 55, .move (.t 6), none, []⟩,
  ⟨some 56, .indexAddr 4 none (.t 54) (.t 55), none, [0, 1]⟩,
  ⟨some 57, .fieldAddr 1 (.t 56), none, [2]⟩,
  ⟨some 58, .load true 3 (.t 57), none, [3]⟩,
  ⟨some 59, .move (.t 1), none, []⟩,
  ⟨some 60, .move (.t 5), none, []⟩,
  ⟨some 61, .indexAddr 4 none (.t 59) (.t 60), none, [5, 6]⟩,
  ⟨some 62, .fieldAddr 0 (.t 61), none, [7]⟩,
  ⟨some 63, .load false 1 (.t 62), none, [8]⟩,
  ⟨some 64, .call true (.c (.fn 81 [])) [.t 58, .t 63], none, [4, 9]⟩,
  ⟨some 65, .bin .gtr (.t 64) (.c (.d (.int .i64 0))), none, [10]⟩]
def r67_10 : List VOper := [
  ⟨some 4, .move (.c (.d (.bool false))), none, []⟩]
def r67_8 : List VOper := [
  ⟨some 52, .move (.t 6), none, []⟩,
  ⟨some 53, .bin .add (.t 52) (.c (.d (.int .i64 1))), none, []⟩,
  ⟨some 6, .move (.t 53), none, []⟩]
def b67_1 : VCode := (.seq (.seq (.region false 0 [0, 1, 5, 6, 51] r67_7) (.cond (.t 51) .skip (.exit 2))) (.seq (.block 3 (.seq (.region true 0 [0, 1, 5, 6, 65] r67_9) (.cond (.t 65) (.seq (.region false 0 [4] r67_10) .ret) .skip))) (.region false 0 [0, 1, 5, 6] r67_8)))
def r67_3 : List VOper := [
  ⟨some 11, .move (.t 5), none, []⟩,
  ⟨some 12, .bin .add (.t 11) (.c (.d (.int .i64 1))), none, []⟩,
  ⟨some 5, .move (.t 12), none, []⟩]
def b67_0 : VCode := (.seq (.seq (.region false 0 [0, 1, 5, 10] r67_2) (.cond (.t 10) .skip (.exit 0))) (.seq (.block 1 (.seq (.seq (.region true 0 [0, 1, 5, 47] r67_4) (.cond (.t 47) (.seq (.region false 0 [4] r67_5) .ret) .skip)) (.seq (.region false 0 [0, 1, 5, 6] r67_6) (.block 2 (.loop [0, 1, 5, 6] b67_1))))) (.region false 0 [0, 1, 5] r67_3)))
def r67_11 : List VOper := [
  ⟨some 4, .move (.c (.d (.bool true))), none, []⟩]
def v67 : VFn := ⟨2, [.tmp 4], (.seq (.region false 0 [0, 1] r67_0) (.seq (.seq (.region false 0 [0, 1, 5] r67_1) (.block 0 (.loop [0, 1, 5] b67_0))) (.seq (.region false 0 [4] r67_11) .ret)))⟩
/-! loop.example/g00461/impl.SubOk -/
def r68_0 : List VOper := [
  ⟨some 4, .move (.c (.d (.bool false))), none, []⟩]
def r68_1 : List VOper := [
  ⟨some 7, .move (.t 1), none, []⟩,
  ⟨some 8, .len false (.t 7), none, []⟩,
  ⟨some 9, .move (.c (.d (.int .i64 0))), none, []⟩]
def r68_2 : List VOper := [
  ⟨some 10, .bin .lss (.t 9) (.t 8), none, []⟩]
def r68_3 : List VOper := [
  ⟨some 11, .move (.t 9), none, []⟩,
  ⟨some 12, .indexAddr 4 none (.t 7) (.t 9), none, []⟩,
  ⟨some 13, .load true 4 (.t 12), none, []⟩,
  ⟨some 6, .alloc 0 [.int .i64 0, .int .i64 0, .int .i64 0, .sl .nil []], none, []⟩,
  ⟨some 5, .move (.t 11), none, []⟩,
  ⟨none, .store false 4 (.t 6) (.t 13), none, []⟩]
def r68_4 : List VOper := [
  ⟨some 14, .fieldAddr 0 (.t 6), none, []⟩,
  ⟨some 15, .load false 1 (.t 14), none, [0]⟩,
  ⟨some 16, .call true (.c (.fn 30 [])) [.t 15, .c (.d (.int .i64 0)), .c (.d (.int .i64 99))], none, [1]⟩,
  ⟨some 17, .not (.t 16), none, [2]⟩,
  ⟨some 18, .move (.t 17), none, [2, 3]⟩,
  ⟨some 19, .move (.t 5), some (18, false), [4]⟩,
  ⟨some 20, .bin .gtr (.t 19) (.c (.d (.int .i64 0))), some (18, false), [4, 5]⟩,
  ⟨some 21, .move (.t 20), some (18, false), [4, 6]⟩,
  ⟨some 22, .move (.t 1), some (21, true), [7]⟩,
  ⟨some 23, .move (.t 5), some (21, true), [7]⟩,
  ⟨some 24, .bin .sub (.t 23) (.c (.d (.int .i64 1))), some (21, true), [7, 9]⟩,
  ⟨some 25, .indexAddr 4 none (.t 22) (.t 24), some (21, true), [7, 8, 10]⟩,
  ⟨some 26, .fieldAddr 0 (.t 25), some (21, true), [7, 11]⟩,
  ⟨some 27, .load false 1 (.t 26), some (21, true), [7, 12]⟩,
  ⟨some 28, .fieldAddr 0 (.t 6), some (21, true), [7]⟩,
  ⟨some 29, .load false 1 (.t 28), some (21, true), [7, 14]⟩,
  ⟨some 30, .bin .geq (.t 27) (.t 29), some (21, true), [7, 13, 15]⟩,
  ⟨some 31, .pick (.t 21) (.t 30) (.c (.d (.bool false))), some (18, false), [4, 7, 16]⟩,
  ⟨some 32, .pick (.t 18) (.c (.d (.bool true))) (.t 31), none, [4, 17]⟩,
  ⟨some 33, .move (.t 32), none, [7, 18]⟩,
  ⟨some 34, .move (.t 0), some (33, false), [19]⟩,
  ⟨some 35, .fieldAddr 1 (.t 6), some (33, false), [19]⟩,
  ⟨some 36, .load true 3 (.t 35), some (33, false), [19, 21]⟩,
  ⟨some 37, .call true (.c (.fn 70 [])) [.t 34, .t 36], some (33, false), [19, 20, 22]⟩,
  ⟨some 38, .not (.t 37), some (33, false), [19, 23]⟩,
  ⟨some 39, .pick (.t 33) (.c (.d (.bool true))) (.t 38), none, [19, 24]⟩]
def r68_5 : List VOper := [
  ⟨some 4, .move (.c (.d (.bool false))), none, []⟩]
def r68_6 : List VOper := [
  ⟨some 40, .move (.t 1), none, []⟩,
  ⟨some 41, .makeFunc 71 [.t 6], none, []⟩,
  ⟨some 42, .call false (.c (.fn 72 [])) [.t 40, .t 41], none, []⟩]
def r68_7 : List VOper := [
  ⟨some 4, .move (.c (.d (.bool false))), none, []⟩]
def r68_8 : List VOper := [
  ⟨some 43, .bin .add (.t 9) (.c (.d (.int .i64 1))), none, []⟩,
  ⟨some 9, .move (.t 43), none, []⟩]
def b68_0 : VCode := (.seq (.region false 0 [0, 1, 7, 8, 9, 10] r68_2) (.seq (.cond (.t 10) .skip (.exit 0)) (.seq (.block 1 (.seq (.region false 1 [0, 1, 5, 6, 7, 8, 9] r68_3) (.seq (.seq (.region true 0 [0, 1, 6, 7, 8, 9, 39] r68_4) (.cond (.t 39) (.seq (.region false 0 [4] r68_5) .ret) .skip)) (.seq (.region false 0 [0, 1, 7, 8, 9, 42] r68_6) (.cond (.t 42) (.seq (.region false 0 [4] r68_7) .ret) .skip))))) (.region false 0 [0, 1, 7, 8, 9] r68_8))))
def r68_9 : List VOper := [
  ⟨some 4, .move (.c (.d (.bool true))), none, []⟩]
def v68 : VFn := ⟨2, [.tmp 4], (.seq (.region false 0 [0, 1] r68_0) (.seq (.seq (.region false 0 [0, 1, 7, 8, 9] r68_1) (.block 0 (.loop [0, 1, 7, 8, 9] b68_0))) (.seq (.region false 0 [4] r68_9) .ret)))⟩
/-! loop.example/g00461/laws.eqBindS -/
def r69_0 : List VOper := [
  ⟨some 4, .move (.c (.d (.bool false))), none, []⟩]
def r69_1 : List VOper := [
  ⟨some 6, .move (.t 0), none, []⟩,
  ⟨some 7, .len false (.t 6), none, []⟩,
  ⟨some 8, .move (.t 1), none, []⟩,
  ⟨some 9, .len false (.t 8), none, []⟩,
  ⟨some 10, .bin .neq (.t 7) (.t 9), none, []⟩]
def r69_2 : List VOper := [
  ⟨some 4, .move (.c (.d (.bool false))), none, []⟩]
def r69_3 : List VOper := [
  ⟨some 5, .move (.c (.d (.int .i64 0))), none, []⟩]
def r69_4 : List VOper := [
  ⟨some 11, .move (.t 5), none, []⟩,
  ⟨some 12, .move (.t 0), none, []⟩,
  ⟨some 13, .len false (.t 12), none, []⟩,
  ⟨some 14, .bin .lss (.t 11) (.t 13), none, []⟩]
def r69_6 : List VOper := [
  ⟨some 17, .move (.t 0), none, []⟩,
  ⟨some 18, .move (.t 5), none, []⟩,
  ⟨some 19, .indexAddr 4 none (.t 17) (.t 18), none, [0, 1]⟩,
  ⟨some 20, .load true 4 (.t 19), none, [2]⟩,
  ⟨some 21, .move (.t 1), none, []⟩,
  ⟨some 22, .move (.t 5), none, []⟩,
  ⟨some 23, .indexAddr 4 none (.t 21) (.t 22), none, [4, 5]⟩,
  ⟨some 24, .load true 4 (.t 23), none, [6]⟩,
  ⟨some 25, .call true (.c (.fn 86 [])) [.t 20, .t 24], none, [3, 7]⟩,
  ⟨some 26, .not (.t 25), none, [8]⟩]
def r69_7 : List VOper := [
  ⟨some 4, .move (.c (.d (.bool false))), none, []⟩]
def r69_5 : List VOper := [
  ⟨some 15, .move (.t 5), none, []⟩,
  ⟨some 16, .bin .add (.t 15) (.c (.d (.int .i64 1))), none, []⟩,
  ⟨some 5, .move (.t 16), none, []⟩]
def b69_0 : VCode := (.seq (.seq (.region false 0 [0, 1, 5, 14] r69_4) (.cond (.t 14) .skip (.exit 0))) (.seq (.block 1 (.seq (.region true 0 [0, 1, 5, 26] r69_6) (.cond (.t 26) (.seq (.region false 0 [4] r69_7) .ret) .skip))) (.region false 0 [0, 1, 5] r69_5)))
def r69_8 : List VOper := [
  ⟨some 4, .move (.c (.d (.bool true))), none, []⟩]
def v69 : VFn := ⟨2, [.tmp 4], (.seq (.region false 0 [0, 1] r69_0) (.seq (.seq (.region false 0 [0, 1, 10] r69_1) (.cond (.t 10) (.seq (.region false 0 [4] r69_2) .ret) .skip)) (.seq (.seq (.region false 0 [0, 1, 5] r69_3) (.block 0 (.loop [0, 1, 5] b69_0))) (.seq (.region false 0 [4] r69_8) .ret))))⟩
/-! loop.example/g00461/impl.TermOk -/
def r70_0 : List VOper := [
  ⟨some 3, .box 0 (.t 1), none, []⟩,
  ⟨some 4, .move (.c (.d (.bool false))), none, []⟩]
def r70_1 : List VOper := [
  ⟨some 5, .move (.t 0), none, []⟩,
  ⟨some 6, .call true (.c (.fn 77 [])) [.t 5], none, []⟩,
  ⟨some 7, .move (.t 6), none, []⟩,
  ⟨some 8, .load true 3 (.t 3), some (7, true), []⟩,
  ⟨some 9, .call true (.c (.fn 23 [])) [.t 8], some (7, true), []⟩,
  ⟨some 10, .bin .leq (.t 9) (.c (.d (.int .i64 60))), some (7, true), []⟩,
  ⟨some 11, .pick (.t 7) (.t 10) (.c (.d (.bool false))), none, []⟩,
  ⟨some 12, .move (.t 11), none, []⟩,
  ⟨some 13, .move (.t 0), some (12, true), []⟩,
  ⟨some 14, .load true 3 (.t 3), some (12, true), []⟩,
  ⟨some 15, .call true (.c (.fn 78 [])) [.t 13, .t 14], some (12, true), []⟩,
  ⟨some 16, .pick (.t 12) (.t 15) (.c (.d (.bool false))), none, []⟩,
  ⟨some 4, .move (.t 16), none, []⟩]
def v70 : VFn := ⟨2, [.tmp 4], (.seq (.region false 1 [0, 3] r70_0) (.seq (.region false 0 [4] r70_1) .ret))⟩
/-! loop.example/g00461/impl.SubOk$1 -/
def r71_0 : List VOper := [
  ⟨some 2, .box 0 (.t 0), none, []⟩,
  ⟨some 3, .move (.c (.d (.bool false))), none, []⟩]
def r71_1 : List VOper := [
  ⟨some 4, .fieldAddr 1 (.t 1), none, []⟩,
  ⟨some 5, .load true 3 (.t 4), none, []⟩,
  ⟨some 6, .fieldAddr 0 (.t 2), none, []⟩,
  ⟨some 7, .load false 1 (.t 6), none, []⟩,
  ⟨some 8, .call true (.c (.fn 73 [])) [.t 5, .t 7], none, []⟩,
  ⟨some 9, .bin .gtr (.t 8) (.c (.d (.int .i64 0))), none, []⟩,
  ⟨some 3, .move (.t 9), none, []⟩]
def v71 : VFn := ⟨2, [.tmp 3], (.seq (.region false 1 [1, 2] r71_0) (.seq (.region false 0 [3] r71_1) .ret))⟩
/-! slices.ContainsFunc[[]loop.example/g00461/impl.Bind,loop.example/g00461/impl.Bind] -/
def r72_0 : List VOper := [
  ⟨some 4, .move (.c (.d (.bool false))), none, []⟩]
def r72_1 : List VOper := [
  ⟨some 5, .move (.t 0), none, []⟩,
  ⟨some 6, .move (.t 1), none, []⟩,
  ⟨some 7, .call false (.c (.fn 76 [])) [.t 5, .t 6], none, []⟩,
  ⟨some 8, .bin .geq (.t 7) (.c (.d (.int .i64 0))), none, []⟩,
  ⟨some 4, .move (.t 8), none, []⟩]
def v72 : VFn := ⟨2, [.tmp 4], (.seq (.region false 0 [0, 1] r72_0) (.seq (.region false 0 [4] r72_1) .ret))⟩
/-! loop.example/g00461/impl.Count -/
def r73_0 : List VOper := [
  ⟨some 2, .box 0 (.t 0), none, []⟩,
  ⟨some 3, .box 1 (.t 1), none, []⟩,
  ⟨some 4, .move (.c (.d (.int .i64 0))), none, []⟩]
def r73_1 : List VOper := [
  ⟨some 5, .alloc 0 [.int .i64 0], none, []⟩,
  ⟨none, .store false 1 (.t 5) (.c (.d (.int .i64 0))), none, []⟩]
def r73_2 : List VOper := [
  ⟨some 6, .load true 3 (.t 2), none, []⟩,
  ⟨some 7, .makeFunc 74 [.t 3, .t 5], none, []⟩,
  ⟨some 8, .call false (.c (.fn 25 [])) [.t 6, .t 7], none, []⟩]
def r73_3 : List VOper := [
  ⟨some 9, .load false 1 (.t 5), none, []⟩,
  ⟨some 4, .move (.t 9), none, []⟩]
def v73 : VFn := ⟨2, [.tmp 4], (.seq (.region false 2 [2, 3] r73_0) (.seq (.region false 1 [2, 3, 5] r73_1) (.seq (.region false 0 [5] r73_2) (.seq (.region false 0 [4] r73_3) .ret))))⟩
/-! loop.example/g00461/impl.Count$1 -/
def r74_0 : List VOper := [
  ⟨some 3, .box 0 (.t 0), none, []⟩]
def r74_1 : List VOper := [
  ⟨some 4, .load true 3 (.t 3), none, []⟩,
  ⟨some 5, .call true (.c (.fn 75 [])) [.t 4], none, []⟩,
  ⟨some 6, .move (.t 5), none, []⟩,
  ⟨some 7, .fieldAddr 1 (.t 3), some (6, true), []⟩,
  ⟨some 8, .load false 1 (.t 7), some (6, true), []⟩,
  ⟨some 9, .load false 1 (.t 1), some (6, true), []⟩,
  ⟨some 10, .bin .eql (.t 8) (.t 9), some (6, true), []⟩,
  ⟨some 11, .pick (.t 6) (.t 10) (.c (.d (.bool false))), none, []⟩]
def r74_2 : List VOper := [
  ⟨some 12, .load false 1 (.t 2), none, []⟩,
  ⟨some 13, .bin .add (.t 12) (.c (.d (.int .i64 1))), none, []⟩,
  ⟨none, .store false 1 (.t 2) (.t 13), none, []⟩]
def v74 : VFn := ⟨3, [], (.seq (.region false 1 [1, 2, 3] r74_0) (.seq (.region false 0 [2, 11] r74_1) (.cond (.t 11) (.region false 0 [] r74_2) .skip)))⟩
/-! loop.example/g00461/impl.isVar -/
def r75_0 : List VOper := [
  ⟨some 1, .box 0 (.t 0), none, []⟩,
  ⟨some 2, .move (.c (.d (.bool false))), none, []⟩]
def r75_1 : List VOper := [
  ⟨some 3, .fieldAddr 0 (.t 1), none, []⟩,
  ⟨some 4, .load false 1 (.t 3), none, []⟩,
  ⟨some 5, .bin .eql (.t 4) (.c (.d (.int .i64 (-1)))), none, []⟩,
  ⟨some 2, .move (.t 5), none, []⟩]
def v75 : VFn := ⟨1, [.tmp 2], (.seq (.region false 1 [1] r75_0) (.seq (.region false 0 [2] r75_1) .ret))⟩
/-! slices.IndexFunc[[]loop.example/g00461/impl.Bind,loop.example/g00461/impl.Bind] -/
def r76_0 : List VOper := [
  ⟨some 4, .move (.c (.d (.int .i64 0))), none, []⟩]
def r76_1 : List VOper := [
  ⟨some 6, .move (.t 0), none, []⟩,
  ⟨some 7, .len false (.t 6), none, []⟩,
  ⟨some 8, .move (.c (.d (.int .i64 0))), none, []⟩]
def r76_2 : List VOper := [
  ⟨some 9, .bin .lss (.t 8) (.t 7), none, []⟩]
def r76_3 : List VOper := [
  ⟨some 10, .move (.t 8), none, []⟩,
  ⟨some 5, .move (.t 10), none, []⟩]
def r76_4 : List VOper := [
  ⟨some 11, .move (.t 1), none, []⟩,
  ⟨some 12, .move (.t 0), none, []⟩,
  ⟨some 13, .move (.t 5), none, []⟩,
  ⟨some 14, .indexAddr 4 none (.t 12) (.t 13), none, []⟩,
  ⟨some 15, .load true 4 (.t 14), none, []⟩,
  ⟨some 16, .call false (.t 11) [.t 15], none, []⟩]
def r76_5 : List VOper := [
  ⟨some 17, .move (.t 5), none, []⟩,
  ⟨some 4, .move (.t 17), none, []⟩]
def r76_6 : List VOper := [
  ⟨some 18, .bin .add (.t 8) (.c (.d (.int .i64 1))), none, []⟩,
  ⟨some 8, .move (.t 18), none, []⟩]
def b76_0 : VCode := (.seq (.region false 0 [0, 1, 7, 8, 9] r76_2) (.seq (.cond (.t 9) .skip (.exit 0)) (.seq (.block 1 (.seq (.region false 0 [0, 1, 5, 7, 8] r76_3) (.seq (.region false 0 [0, 1, 5, 7, 8, 16] r76_4) (.cond (.t 16) (.seq (.region false 0 [4] r76_5) .ret) .skip)))) (.region false 0 [0, 1, 7, 8] r76_6))))
def r76_7 : List VOper := [
  ⟨some 4, .move (.c (.d (.int .i64 (-1)))), none, []⟩]
def v76 : VFn := ⟨2, [.tmp 4], (.seq (.region false 0 [0, 1] r76_0) (.seq (.seq (.region false 0 [0, 1, 7, 8] r76_1) (.block 0 (.loop [0, 1, 7, 8] b76_0))) (.seq (.region false 0 [4] r76_7) .ret)))⟩
/-! loop.example/g00461/impl.SigOk -/
def r77_0 : List VOper := [
  ⟨some 2, .move (.c (.d (.bool false))), none, []⟩]
def r77_1 : List VOper := [
  ⟨some 5, .move (.t 0), none, []⟩,
  ⟨some 6, .len false (.t 5), none, []⟩,
  ⟨some 7, .move (.c (.d (.int .i64 0))), none, []⟩]
def r77_2 : List VOper := [
  ⟨some 8, .bin .lss (.t 7) (.t 6), none, []⟩]
def r77_3 : List VOper := [
  ⟨some 9, .move (.t 7), none, []⟩,
  ⟨some 10, .indexAddr 3 none (.t 5) (.t 7), none, []⟩,
  ⟨some 11, .load true 3 (.t 10), none, []⟩,
  ⟨some 4, .alloc 0 [.str ⟨#[]⟩, .int .i64 0, .bool false], none, []⟩,
  ⟨some 3, .move (.t 9), none, []⟩,
  ⟨none, .store false 3 (.t 4) (.t 11), none, []⟩]
def r77_4 : List VOper := [
  ⟨some 12, .fieldAddr 0 (.t 4), none, []⟩,
  ⟨some 13, .load false 1 (.t 12), none, []⟩,
  ⟨some 14, .call true (.c (.fn 60 [])) [.t 13], none, []⟩,
  ⟨some 15, .not (.t 14), none, []⟩,
  ⟨some 16, .move (.t 15), none, []⟩,
  ⟨some 17, .move (.t 0), some (16, false), []⟩,
  ⟨some 18, .fieldAddr 0 (.t 4), some (16, false), []⟩,
  ⟨some 19, .load false 1 (.t 18), some (16, false), []⟩,
  ⟨some 20, .call true (.c (.fn 14 [])) [.t 17, .t 19], some (16, false), []⟩,
  ⟨some 21, .move (.t 3), some (16, false), []⟩,
  ⟨some 22, .bin .neq (.t 20) (.t 21), some (16, false), []⟩,
  ⟨some 23, .pick (.t 16) (.c (.d (.bool true))) (.t 22), none, []⟩,
  ⟨some 24, .move (.t 23), none, []⟩,
  ⟨some 25, .fieldAddr 1 (.t 4), some (24, false), []⟩,
  ⟨some 26, .load false 1 (.t 25), some (24, false), []⟩,
  ⟨some 27, .call true (.c (.fn 30 [])) [.t 26, .c (.d (.int .i64 0)), .c (.d (.int .i64 3))], some (24, false), []⟩,
  ⟨some 28, .not (.t 27), some (24, false), []⟩,
  ⟨some 29, .pick (.t 24) (.c (.d (.bool true))) (.t 28), none, []⟩,
  ⟨some 30, .move (.t 29), none, []⟩,
  ⟨some 31, .fieldAddr 2 (.t 4), some (30, false), []⟩,
  ⟨some 32, .load false 1 (.t 31), some (30, false), []⟩,
  ⟨some 33, .move (.t 32), some (30, false), []⟩,
  ⟨some 34, .fieldAddr 1 (.t 4), some (33, true), []⟩,
  ⟨some 35, .load false 1 (.t 34), some (33, true), []⟩,
  ⟨some 36, .bin .neq (.t 35) (.c (.d (.int .i64 2))), some (33, true), []⟩,
  ⟨some 37, .pick (.t 33) (.t 36) (.c (.d (.bool false))), some (30, false), []⟩,
  ⟨some 38, .pick (.t 30) (.c (.d (.bool true))) (.t 37), none, []⟩]
def r77_5 : List VOper := [
  ⟨some 2, .move (.c (.d (.bool false))), none, []⟩]
def r77_6 : List VOper := [
  ⟨some 39, .bin .add (.t 7) (.c (.d (.int .i64 1))), none, []⟩,
  ⟨some 7, .move (.t 39), none, []⟩]
def b77_0 : VCode := (.seq (.region false 0 [0, 5, 6, 7, 8] r77_2) (.seq (.cond (.t 8) .skip (.exit 0)) (.seq (.block 1 (.seq (.region false 1 [0, 3, 4, 5, 6, 7] r77_3) (.seq (.region false 0 [0, 5, 6, 7, 38] r77_4) (.cond (.t 38) (.seq (.region false 0 [2] r77_5) .ret) .skip)))) (.region false 0 [0, 5, 6, 7] r77_6))))
def r77_7 : List VOper := [
  ⟨some 40, .move (.t 0), none, []⟩,
  ⟨some 41, .len false (.t 40), none, []⟩,
  ⟨some 42, .call true (.c (.fn 30 [])) [.t 41, .c (.d (.int .i64 1)), .c (.d (.int .i64 8))], none, []⟩,
  ⟨some 43, .move (.t 42), none, []⟩,
  ⟨some 44, .move (.t 0), some (43, true), []⟩,
  ⟨some 45, .indexAddr 3 none (.t 44) (.c (.d (.int .i64 0))), some (43, true), []⟩,
  ⟨some 46, .fieldAddr 0 (.t 45), some (43, true), []⟩,
  ⟨some 47, .load false 1 (.t 46), some (43, true), []⟩,
  ⟨some 48, .bin .eql (.t 47) (.c (.d (.str ⟨#[116, 116]⟩))), some (43, true), []⟩,
  ⟨some 49, .pick (.t 43) (.t 48) (.c (.d (.bool false))), none, []⟩,
  ⟨some 50, .move (.t 49), none, []⟩,
  ⟨some 51, .move (.t 0), some (50, true), []⟩,
  ⟨some 52, .indexAddr 3 none (.t 51) (.c (.d (.int .i64 0))), some (50, true), []⟩,
  ⟨some 53, .fieldAddr 1 (.t 52), some (50, true), []⟩,
  ⟨some 54, .load false 1 (.t 53), some (50, true), []⟩,
  ⟨some 55, .bin .eql (.t 54) (.c (.d (.int .i64 0))), some (50, true), []⟩,
  ⟨some 56, .pick (.t 50) (.t 55) (.c (.d (.bool false))), none, []⟩,
  ⟨some 2, .move (.t 56), none, []⟩]
def v77 : VFn := ⟨1, [.tmp 2], (.seq (.region false 0 [0] r77_0) (.seq (.seq (.region false 0 [0, 5, 6, 7] r77_1) (.block 0 (.loop [0, 5, 6, 7] b77_0))) (.seq (.region false 0 [2] r77_7) .ret)))⟩
/-! loop.example/g00461/impl.formOk -/
def r78_0 : List VOper := [
  ⟨some 3, .box 0 (.t 1), none, []⟩,
  ⟨some 4, .move (.c (.d (.bool false))), none, []⟩]
def r78_1 : List VOper := [
  ⟨some 7, .load true 3 (.t 3), none, []⟩,
  ⟨some 8, .call true (.c (.fn 75 [])) [.t 7], none, []⟩]
def r78_2 : List VOper := [
  ⟨some 9, .fieldAddr 1 (.t 3), none, []⟩,
  ⟨some 10, .load false 1 (.t 9), none, []⟩,
  ⟨some 11, .call true (.c (.fn 30 [])) [.t 10, .c (.d (.int .i64 0)), .c (.d (.int .i64 99))], none, []⟩,
  ⟨some 12, .move (.t 11), none, []⟩,
  ⟨some 13, .fieldAddr 2 (.t 3), some (12, true), []⟩,
  ⟨some 14, .load false 1 (.t 13), some (12, true), []⟩,
  ⟨some 15, .len false (.t 14), some (12, true), []⟩,
  ⟨some 16, .bin .eql (.t 15) (.c (.d (.int .i64 0))), some (12, true), []⟩,
  ⟨some 17, .pick (.t 12) (.t 16) (.c (.d (.bool false))), none, []⟩,
  ⟨some 4, .move (.t 17), none, []⟩]
def r78_3 : List VOper := [
  ⟨some 18, .move (.t 0), none, []⟩,
  ⟨some 19, .fieldAddr 0 (.t 3), none, []⟩,
  ⟨some 20, .load false 1 (.t 19), none, [1]⟩,
  ⟨some 21, .call true (.c (.fn 29 [])) [.t 18, .t 20], none, [0, 2]⟩,
  ⟨some 22, .not (.t 21), none, [3]⟩,
  ⟨some 23, .move (.t 22), none, [3, 4]⟩,
  ⟨some 24, .fieldAddr 1 (.t 3), some (23, false), [5]⟩,
  ⟨some 25, .load false 1 (.t 24), some (23, false), [5, 6]⟩,
  ⟨some 26, .bin .neq (.t 25) (.c (.d (.int .i64 0))), some (23, false), [5, 7]⟩,
  ⟨some 27, .pick (.t 23) (.c (.d (.bool true))) (.t 26), none, [5, 8]⟩,
  ⟨some 28, .move (.t 27), none, [5, 9]⟩,
  ⟨some 29, .move (.t 0), some (28, false), [10]⟩,
  ⟨some 30, .fieldAddr 0 (.t 3), some (28, false), [10]⟩,
  ⟨some 31, .load false 1 (.t 30), some (28, false), [10, 12]⟩,
  ⟨some 32, .indexAddr 3 none (.t 29) (.t 31), some (28, false), [10, 11, 13]⟩,
  ⟨some 33, .fieldAddr 2 (.t 32), some (28, false), [10, 14]⟩,
  ⟨some 34, .load false 1 (.t 33), some (28, false), [10, 15]⟩,
  ⟨some 35, .not (.t 34), some (28, false), [10, 16]⟩,
  ⟨some 36, .move (.t 35), some (28, false), [10, 17]⟩,
  ⟨some 37, .fieldAddr 2 (.t 3), some (36, true), [18]⟩,
  ⟨some 38, .load false 1 (.t 37), some (36, true), [18, 19]⟩,
  ⟨some 39, .len false (.t 38), some (36, true), [18, 20]⟩,
  ⟨some 40, .move (.t 0), some (36, true), [18]⟩,
  ⟨some 41, .fieldAddr 0 (.t 3), some (36, true), [18]⟩,
  ⟨some 42, .load false 1 (.t 41), some (36, true), [18, 23]⟩,
  ⟨some 43, .indexAddr 3 none (.t 40) (.t 42), some (36, true), [18, 22, 24]⟩,
  ⟨some 44, .fieldAddr 1 (.t 43), some (36, true), [18, 25]⟩,
  ⟨some 45, .load false 1 (.t 44), some (36, true), [18, 26]⟩,
  ⟨some 46, .bin .neq (.t 39) (.t 45), some (36, true), [18, 21, 27]⟩,
  ⟨some 47, .pick (.t 36) (.t 46) (.c (.d (.bool false))), some (28, false), [10, 18, 28]⟩,
  ⟨some 48, .pick (.t 28) (.c (.d (.bool true))) (.t 47), none, [10, 29]⟩,
  ⟨some 49, .move (.t 48), none, [18, 30]⟩,
  ⟨some 50, .move (.t 0), some (49, false), [31]⟩,
  ⟨some 51, .fieldAddr 0 (.t 3), some (49, false), [31]⟩,
  ⟨some 52, .load false 1 (.t 51), some (49, false), [31, 33]⟩,
  ⟨some 53, .indexAddr 3 none (.t 50) (.t 52), some (49, false), [31, 32, 34]⟩,
  ⟨some 54, .fieldAddr 2 (.t 53), some (49, false), [31, 35]⟩,
  ⟨some 55, .load false 1 (.t 54), some (49, false), [31, 36]⟩,
  ⟨some 56, .move (.t 55), some (49, false), [31, 37]⟩,
  ⟨some 57, .fieldAddr 2 (.t 3), some (56, true), [38]⟩,
  ⟨some 58, .load false 1 (.t 57), some (56, true), [38, 39]⟩,
  ⟨some 59, .len false (.t 58), some (56, true), [38, 40]⟩,
  ⟨some 60, .bin .lss (.t 59) (.c (.d (.int .i64 2))), some (56, true), [38, 41]⟩,
  ⟨some 61, .pick (.t 56) (.t 60) (.c (.d (.bool false))), some (49, false), [31, 38, 42]⟩,
  ⟨some 62, .pick (.t 49) (.c (.d (.bool true))) (.t 61), none, [31, 43]⟩]
def r78_4 : List VOper := [
  ⟨some 4, .move (.c (.d (.bool false))), none, []⟩]
def r78_5 : List VOper := [
  ⟨some 63, .fieldAddr 2 (.t 3), none, []⟩,
  ⟨some 64, .load false 1 (.t 63), none, []⟩,
  ⟨some 65, .len false (.t 64), none, []⟩,
  ⟨some 66, .move (.c (.d (.int .i64 0))), none, []⟩]
def r78_6 : List VOper := [
  ⟨some 67, .bin .lss (.t 66) (.t 65), none, []⟩]
def r78_7 : List VOper := [
  ⟨some 68, .move (.t 66), none, []⟩,
  ⟨some 69, .indexAddr 3 none (.t 64) (.t 66), none, []⟩,
  ⟨some 70, .load true 3 (.t 69), none, []⟩,
  ⟨some 6, .alloc 0 [.int .i64 0, .int .i64 0, .sl .nil []], none, []⟩,
  ⟨some 5, .move (.t 68), none, []⟩,
  ⟨none, .store false 3 (.t 6) (.t 70), none, []⟩]
def r78_8 : List VOper := [
  ⟨some 71, .move (.t 0), none, []⟩,
  ⟨some 72, .load true 3 (.t 6), none, []⟩,
  ⟨some 73, .call true (.c (.fn 78 [])) [.t 71, .t 72], none, [0, 1]⟩,
  ⟨some 74, .not (.t 73), none, [2]⟩,
  ⟨some 75, .move (.t 74), none, [2, 3]⟩,
  ⟨some 76, .move (.t 0), some (75, false), [4]⟩,
  ⟨some 77, .fieldAddr 0 (.t 3), some (75, false), [4]⟩,
  ⟨some 78, .load false 1 (.t 77), some (75, false), [4, 6]⟩,
  ⟨some 79, .indexAddr 3 none (.t 76) (.t 78), some (75, false), [4, 5, 7]⟩,
  ⟨some 80, .fieldAddr 2 (.t 79), some (75, false), [4, 8]⟩,
  ⟨some 81, .load false 1 (.t 80), some (75, false), [4, 9]⟩,
  ⟨some 82, .move (.t 81), some (75, false), [4, 10]⟩,
  ⟨some 83, .fieldAddr 0 (.t 6), some (82, true), [11]⟩,
  ⟨some 84, .load false 1 (.t 83), some (82, true), [11, 12]⟩,
  ⟨some 85, .fieldAddr 0 (.t 3), some (82, true), [11]⟩,
  ⟨some 86, .load false 1 (.t 85), some (82, true), [11, 14]⟩,
  ⟨some 87, .bin .eql (.t 84) (.t 86), some (82, true), [11, 13, 15]⟩,
  ⟨some 88, .move (.t 87), some (82, true), [11, 16]⟩,
  ⟨some 89, .move (.t 5), some (88, false), [17]⟩,
  ⟨some 90, .bin .gtr (.t 89) (.c (.d (.int .i64 0))), some (88, false), [17, 18]⟩,
  ⟨some 91, .move (.t 90), some (88, false), [17, 19]⟩,
  ⟨some 92, .load true 3 (.t 6), some (91, true), [20]⟩,
  ⟨some 93, .fieldAddr 2 (.t 3), some (91, true), [20]⟩,
  ⟨some 94, .load false 1 (.t 93), some (91, true), [20, 22]⟩,
  ⟨some 95, .move (.t 5), some (91, true), [20]⟩,
  ⟨some 96, .bin .sub (.t 95) (.c (.d (.int .i64 1))), some (91, true), [20, 24]⟩,
  ⟨some 97, .indexAddr 3 none (.t 94) (.t 96), some (91, true), [20, 23, 25]⟩,
  ⟨some 98, .load true 3 (.t 97), some (91, true), [20, 26]⟩,
  ⟨some 99, .call true (.c (.fn 79 [])) [.t 92, .t 98], some (91, true), [20, 21, 27]⟩,
  ⟨some 100, .pick (.t 91) (.t 99) (.c (.d (.bool false))), some (88, false), [17, 20, 28]⟩,
  ⟨some 101, .pick (.t 88) (.c (.d (.bool true))) (.t 100), some (82, true), [11, 17, 29]⟩,
  ⟨some 102, .pick (.t 82) (.t 101) (.c (.d (.bool false))), some (75, false), [4, 11, 30]⟩,
  ⟨some 103, .pick (.t 75) (.c (.d (.bool true))) (.t 102), none, [4, 31]⟩]
def r78_9 : List VOper := [
  ⟨some 4, .move (.c (.d (.bool false))), none, []⟩]
def r78_10 : List VOper := [
  ⟨some 104, .bin .add (.t 66) (.c (.d (.int .i64 1))), none, []⟩,
  ⟨some 66, .move (.t 104), none, []⟩]
def b78_0 : VCode := (.seq (.region false 0 [0, 3, 64, 65, 66, 67] r78_6) (.seq (.cond (.t 67) .skip (.exit 0)) (.seq (.block 1 (.seq (.region false 1 [0, 3, 5, 6, 64, 65, 66] r78_7) (.seq (.region true 0 [0, 3, 64, 65, 66, 103] r78_8) (.cond (.t 103) (.seq (.region false 0 [4] r78_9) .ret) .skip)))) (.region false 0 [0, 3, 64, 65, 66] r78_10))))
def r78_11 : List VOper := [
  ⟨some 4, .move (.c (.d (.bool true))), none, []⟩]
def v78 : VFn := ⟨2, [.tmp 4], (.seq (.region false 1 [0, 3] r78_0) (.seq (.seq (.region false 0 [0, 3, 8] r78_1) (.cond (.t 8) (.seq (.region false 0 [4] r78_2) .ret) .skip)) (.seq (.seq (.region true 0 [0, 3, 62] r78_3) (.cond (.t 62) (.seq (.region false 0 [4] r78_4) .ret) .skip)) (.seq (.seq (.region false 0 [0, 3, 64, 65, 66] r78_5) (.block 0 (.loop [0, 3, 64, 65, 66] b78_0))) (.seq (.region false 0 [4] r78_11) .ret)))))⟩
/-! loop.example/g00461/impl.Before -/
def r79_0 : List VOper := [
  ⟨some 2, .box 0 (.t 0), none, []⟩,
  ⟨some 3, .box 1 (.t 1), none, []⟩,
  ⟨some 4, .move (.c (.d (.bool false))), none, []⟩]
def r79_1 : List VOper := [
  ⟨some 5, .load true 3 (.t 2), none, []⟩,
  ⟨some 6, .load true 3 (.t 3), none, []⟩,
  ⟨some 7, .call true (.c (.fn 6 [])) [.t 5, .t 6], none, []⟩,
  ⟨some 8, .bin .lss (.t 7) (.c (.d (.int .i64 0))), none, []⟩,
  ⟨some 4, .move (.t 8), none, []⟩]
def v79 : VFn := ⟨2, [.tmp 4], (.seq (.region false 2 [2, 3] r79_0) (.seq (.region false 0 [4] r79_1) .ret))⟩
/-! loop.example/g00461/spec.TermOk -/
def r80_0 : List VOper := [
  ⟨some 3, .box 0 (.t 1), none, []⟩,
  ⟨some 4, .move (.c (.d (.bool false))), none, []⟩]
def r80_1 : List VOper := [
  ⟨some 5, .move (.t 0), none, []⟩,
  ⟨some 6, .call true (.c (.fn 82 [])) [.t 5], none, []⟩,
  ⟨some 7, .move (.t 6), none, []⟩,
  ⟨some 8, .load true 3 (.t 3), some (7, true), []⟩,
  ⟨some 9, .call true (.c (.fn 22 [])) [.t 8], some (7, true), []⟩,
  ⟨some 10, .bin .leq (.t 9) (.c (.d (.int .i64 60))), some (7, true), []⟩,
  ⟨some 11, .pick (.t 7) (.t 10) (.c (.d (.bool false))), none, []⟩,
  ⟨some 12, .move (.t 11), none, []⟩,
  ⟨some 13, .move (.t 0), some (12, true), []⟩,
  ⟨some 14, .load true 3 (.t 3), some (12, true), []⟩,
  ⟨some 15, .call true (.c (.fn 83 [])) [.t 13, .t 14], some (12, true), []⟩,
  ⟨some 16, .pick (.t 12) (.t 15) (.c (.d (.bool false))), none, []⟩,
  ⟨some 4, .move (.t 16), none, []⟩]
def v80 : VFn := ⟨2, [.tmp 4], (.seq (.region false 1 [0, 3] r80_0) (.seq (.region false 0 [4] r80_1) .ret))⟩
/-! loop.example/g00461/spec.Count -/
def r81_0 : List VOper := [
  ⟨some 2, .box 0 (.t 0), none, []⟩,
  ⟨some 4, .move (.c (.d (.int .i64 0))), none, []⟩]
def r81_1 : List VOper := [
  ⟨some 7, .fieldAddr 0 (.t 2), none, []⟩,
  ⟨some 8, .load false 1 (.t 7), none, []⟩,
  ⟨some 9, .bin .eql (.t 8) (.c (.d (.int .i64 (-1)))), none, []⟩,
  ⟨some 10, .move (.t 9), none, []⟩,
  ⟨some 11, .fieldAddr 1 (.t 2), some (10, true), []⟩,
  ⟨some 12, .load false 1 (.t 11), some (10, true), []⟩,
  ⟨some 13, .move (.t 1), some (10, true), []⟩,
  ⟨some 14, .bin .eql (.t 12) (.t 13), some (10, true), []⟩,
  ⟨some 15, .pick (.t 10) (.t 14) (.c (.d (.bool false))), none, []⟩,
  ⟨some 16, .call true (.c (.fn 85 [])) [.t 15], none, []⟩,
  ⟨some 5, .move (.t 16), none, []⟩]
def r81_2 : List VOper := [
  ⟨some 6, .move (.c (.d (.int .i64 0))), none, []⟩]
def r81_3 : List VOper := [
  ⟨some 17, .move (.t 6), none, []⟩,
  ⟨some 18, .fieldAddr 2 (.t 2), none, []⟩,
  ⟨some 19, .load false 1 (.t 18), none, []⟩,
  ⟨some 20, .len false (.t 19), none, []⟩,
  ⟨some 21, .bin .lss (.t 17) (.t 20), none, []⟩]
def r81_5 : List VOper := [
  ⟨some 24, .move (.t 5), none, []⟩,
  ⟨some 25, .fieldAddr 2 (.t 2), none, []⟩,
  ⟨some 26, .load false 1 (.t 25), none, []⟩,
  ⟨some 27, .move (.t 6), none, []⟩,
  ⟨some 28, .indexAddr 3 none (.t 26) (.t 27), none, []⟩,
  ⟨some 29, .load true 3 (.t 28), none, []⟩,
  ⟨some 30, .move (.t 1), none, []⟩,
  ⟨some 31, .call true (.c (.fn 81 [])) [.t 29, .t 30], none, []⟩,
  ⟨some 32, .bin .add (.t 24) (.t 31), none, []⟩,
  ⟨some 5, .move (.t 32), none, []⟩]
def r81_4 : List VOper := [
  ⟨some 22, .move (.t 6), none, []⟩,
  ⟨some 23, .bin .add (.t 22) (.c (.d (.int .i64 1))), none, []⟩,
  ⟨some 6, .move (.t 23), none, []⟩]
def b81_0 : VCode := (.seq (.seq (.region false 0 [1, 2, 5, 6, 21] r81_3) (.cond (.t 21) .skip (.exit 0))) (.seq (.block 1 (.region false 0 [1, 2, 5, 6] r81_5)) (.region false 0 [1, 2, 5, 6] r81_4)))
def r81_6 : List VOper := [
  ⟨some 33, .move (.t 5), none, []⟩,
  ⟨some 4, .move (.t 33), none, []⟩]
def v81 : VFn := ⟨2, [.tmp 4], (.seq (.region false 1 [1, 2] r81_0) (.seq (.region false 0 [1, 2, 5] r81_1) (.seq (.seq (.region false 0 [1, 2, 5, 6] r81_2) (.block 0 (.loop [1, 2, 5, 6] b81_0))) (.seq (.region false 0 [4] r81_6) .ret))))⟩
/-! loop.example/g00461/spec.SigOk -/
def r82_0 : List VOper := [
  ⟨some 2, .move (.c (.d (.bool false))), none, []⟩]
def r82_1 : List VOper := [
  ⟨some 3, .move (.c (.d (.int .i64 0))), none, []⟩]
def r82_2 : List VOper := [
  ⟨some 4, .move (.t 3), none, []⟩,
  ⟨some 5, .move (.t 0), none, []⟩,
  ⟨some 6, .len false (.t 5), none, []⟩,
  ⟨some 7, .bin .lss (.t 4) (.t 6), none, []⟩]
def r82_4 : List VOper := [
  ⟨some 10, .move (.t 0), none, []⟩,
  ⟨some 11, .move (.t 3), none, []⟩,
  ⟨some 12, .indexAddr 3 none (.t 10) (.t 11), none, []⟩,
  ⟨some 13, .fieldAddr 0 (.t 12), none, []⟩,
  ⟨some 14, .load false 1 (.t 13), none, []⟩,
  ⟨some 15, .call true (.c (.fn 59 [])) [.t 14], none, []⟩,
  ⟨some 16, .not (.t 15), none, []⟩,
  ⟨some 17, .move (.t 16), none, []⟩,
  ⟨some 18, .move (.t 0), some (17, false), []⟩,
  ⟨some 19, .move (.t 0), some (17, false), []⟩,
  ⟨some 20, .move (.t 3), some (17, false), []⟩,
  ⟨some 21, .indexAddr 3 none (.t 19) (.t 20), some (17, false), []⟩,
  ⟨some 22, .fieldAddr 0 (.t 21), some (17, false), []⟩,
  ⟨some 23, .load false 1 (.t 22), some (17, false), []⟩,
  ⟨some 24, .call true (.c (.fn 13 [])) [.t 18, .t 23], some (17, false), []⟩,
  ⟨some 25, .move (.t 3), some (17, false), []⟩,
  ⟨some 26, .bin .neq (.t 24) (.t 25), some (17, false), []⟩,
  ⟨some 27, .pick (.t 17) (.c (.d (.bool true))) (.t 26), none, []⟩,
  ⟨some 28, .move (.t 27), none, []⟩,
  ⟨some 29, .move (.t 0), some (28, false), []⟩,
  ⟨some 30, .move (.t 3), some (28, false), []⟩,
  ⟨some 31, .indexAddr 3 none (.t 29) (.t 30), some (28, false), []⟩,
  ⟨some 32, .fieldAddr 1 (.t 31), some (28, false), []⟩,
  ⟨some 33, .load false 1 (.t 32), some (28, false), []⟩,
  ⟨some 34, .call true (.c (.fn 31 [])) [.t 33, .c (.d (.int .i64 0)), .c (.d (.int .i64 3))], some (28, false), []⟩,
  ⟨some 35, .not (.t 34), some (28, false), []⟩,
  ⟨some 36, .pick (.t 28) (.c (.d (.bool true))) (.t 35), none, []⟩,
  ⟨some 37, .move (.t 36), none, []⟩,
  ⟨some 38, .move (.t 0), some (37, false), []⟩,
  ⟨some 39, .move (.t 3), some (37, false), []⟩,
  ⟨some 40, .indexAddr 3 none (.t 38) (.t 39), some (37, false), []⟩,
  ⟨some 41, .fieldAddr 2 (.t 40), some (37, false), []⟩,
  ⟨some 42, .load false 1 (.t 41), some (37, false), []⟩,
  ⟨some 43, .move (.t 42), some (37, false), []⟩,
  ⟨some 44, .move (.t 0), some (43, true), []⟩,
  ⟨some 45, .move (.t 3), some (43, true), []⟩,
  ⟨some 46, .indexAddr 3 none (.t 44) (.t 45), some (43, true), []⟩,
  ⟨some 47, .fieldAddr 1 (.t 46), some (43, true), []⟩,
  ⟨some 48, .load false 1 (.t 47), some (43, true), []⟩,
  ⟨some 49, .bin .neq (.t 48) (.c (.d (.int .i64 2))), some (43, true), []⟩,
  ⟨some 50, .pick (.t 43) (.t 49) (.c (.d (.bool false))), some (37, false), []⟩,
  ⟨some 51, .pick (.t 37) (.c (.d (.bool true))) (.t 50), none, []⟩]
def r82_5 : List VOper := [
  ⟨some 2, .move (.c (.d (.bool false))), none, []⟩]
def r82_3 : List VOper := [
  ⟨some 8, .move (.t 3), none, []⟩,
  ⟨some 9, .bin .add (.t 8) (.c (.d (.int .i64 1))), none, []⟩,
  ⟨some 3, .move (.t 9), none, []⟩]
def b82_0 : VCode := (.seq (.seq (.region false 0 [0, 3, 7] r82_2) (.cond (.t 7) .skip (.exit 0))) (.seq (.block 1 (.seq (.region false 0 [0, 3, 51] r82_4) (.cond (.t 51) (.seq (.region false 0 [2] r82_5) .ret) .skip))) (.region false 0 [0, 3] r82_3)))
def r82_6 : List VOper := [
  ⟨some 52, .move (.t 0), none, []⟩,
  ⟨some 53, .len false (.t 52), none, []⟩,
  ⟨some 54, .call true (.c (.fn 31 [])) [.t 53, .c (.d (.int .i64 1)), .c (.d (.int .i64 8))], none, []⟩,
  ⟨some 55, .move (.t 54), none, []⟩,
  ⟨some 56, .move (.t 0), some (55, true), []⟩,
  ⟨some 57, .indexAddr 3 none (.t 56) (.c (.d (.int .i64 0))), some (55, true), []⟩,
  ⟨some 58, .load true 3 (.t 57), some (55, true), []⟩,
  ⟨some 59, .build [.str ⟨#[]⟩, .int .i64 0, .bool false] [(0, 1, .c (.d (.str ⟨#[116, 116]⟩)))], some (55, true), []⟩,
  ⟨some 60, .eqAgg false [2, 0, 1] (.t 58) (.t 59), some (55, true), []⟩,
  ⟨some 61, .pick (.t 55) (.t 60) (.c (.d (.bool false))), none, []⟩,
  ⟨some 2, .move (.t 61), none, []⟩]
def v82 : VFn := ⟨1, [.tmp 2], (.seq (.region false 0 [0] r82_0) (.seq (.seq (.region false 0 [0, 3] r82_1) (.block 0 (.loop [0, 3] b82_0))) (.seq (.region false 0 [2] r82_6) .ret)))⟩
/-! loop.example/g00461/spec.l4Right -/
def r83_0 : List VOper := [
  ⟨some 3, .box 0 (.t 1), none, []⟩,
  ⟨some 4, .move (.c (.d (.bool false))), none, []⟩]
def r83_1 : List VOper := [
  ⟨some 6, .fieldAddr 0 (.t 3), none, []⟩,
  ⟨some 7, .load false 1 (.t 6), none, []⟩,
  ⟨some 8, .bin .eql (.t 7) (.c (.d (.int .i64 (-1)))), none, []⟩]
def r83_2 : List VOper := [
  ⟨some 9, .fieldAddr 1 (.t 3), none, []⟩,
  ⟨some 10, .load false 1 (.t 9), none, []⟩,
  ⟨some 11, .call true (.c (.fn 31 [])) [.t 10, .c (.d (.int .i64 0)), .c (.d (.int .i64 99))], none, []⟩,
  ⟨some 12, .move (.t 11), none, []⟩,
  ⟨some 13, .fieldAddr 2 (.t 3), some (12, true), []⟩,
  ⟨some 14, .load false 1 (.t 13), some (12, true), []⟩,
  ⟨some 15, .len false (.t 14), some (12, true), []⟩,
  ⟨some 16, .bin .eql (.t 15) (.c (.d (.int .i64 0))), some (12, true), []⟩,
  ⟨some 17, .pick (.t 12) (.t 16) (.c (.d (.bool false))), none, []⟩,
  ⟨some 4, .move (.t 17), none, []⟩]
def r83_3 : List VOper := [
  ⟨some 18, .fieldAddr 0 (.t 3), none, []⟩,
  ⟨some 19, .load false 1 (.t 18), none, [0]⟩,
  ⟨some 20, .move (.t 0), none, []⟩,
  ⟨some 21, .len false (.t 20), none, [2]⟩,
  ⟨some 22, .bin .sub (.t 21) (.c (.d (.int .i64 1))), none, [3]⟩,
  ⟨some 23, .call true (.c (.fn 31 [])) [.t 19, .c (.d (.int .i64 0)), .t 22], none, [1, 4]⟩,
  ⟨some 24, .not (.t 23), none, [5]⟩,
  ⟨some 25, .move (.t 24), none, [5, 6]⟩,
  ⟨some 26, .fieldAddr 1 (.t 3), some (25, false), [7]⟩,
  ⟨some 27, .load false 1 (.t 26), some (25, false), [7, 8]⟩,
  ⟨some 28, .bin .neq (.t 27) (.c (.d (.int .i64 0))), some (25, false), [7, 9]⟩,
  ⟨some 29, .pick (.t 25) (.c (.d (.bool true))) (.t 28), none, [7, 10]⟩,
  ⟨some 30, .move (.t 29), none, [7, 11]⟩,
  ⟨some 31, .move (.t 0), some (30, false), [12]⟩,
  ⟨some 32, .fieldAddr 0 (.t 3), some (30, false), [12]⟩,
  ⟨some 33, .load false 1 (.t 32), some (30, false), [12, 14]⟩,
  ⟨some 34, .indexAddr 3 none (.t 31) (.t 33), some (30, false), [12, 13, 15]⟩,
  ⟨some 35, .fieldAddr 2 (.t 34), some (30, false), [12, 16]⟩,
  ⟨some 36, .load false 1 (.t 35), some (30, false), [12, 17]⟩,
  ⟨some 37, .not (.t 36), some (30, false), [12, 18]⟩,
  ⟨some 38, .move (.t 37), some (30, false), [12, 19]⟩,
  ⟨some 39, .fieldAddr 2 (.t 3), some (38, true), [20]⟩,
  ⟨some 40, .load false 1 (.t 39), some (38, true), [20, 21]⟩,
  ⟨some 41, .len false (.t 40), some (38, true), [20, 22]⟩,
  ⟨some 42, .move (.t 0), some (38, true), [20]⟩,
  ⟨some 43, .fieldAddr 0 (.t 3), some (38, true), [20]⟩,
  ⟨some 44, .load false 1 (.t 43), some (38, true), [20, 25]⟩,
  ⟨some 45, .indexAddr 3 none (.t 42) (.t 44), some (38, true), [20, 24, 26]⟩,
  ⟨some 46, .fieldAddr 1 (.t 45), some (38, true), [20, 27]⟩,
  ⟨some 47, .load false 1 (.t 46), some (38, true), [20, 28]⟩,
  ⟨some 48, .bin .neq (.t 41) (.t 47), some (38, true), [20, 23, 29]⟩,
  ⟨some 49, .pick (.t 38) (.t 48) (.c (.d (.bool false))), some (30, false), [12, 20, 30]⟩,
  ⟨some 50, .pick (.t 30) (.c (.d (.bool true))) (.t 49), none, [12, 31]⟩,
  ⟨some 51, .move (.t 50), none, [20, 32]⟩,
  ⟨some 52, .move (.t 0), some (51, false), [33]⟩,
  ⟨some 53, .fieldAddr 0 (.t 3), some (51, false), [33]⟩,
  ⟨some 54, .load false 1 (.t 53), some (51, false), [33, 35]⟩,
  ⟨some 55, .indexAddr 3 none (.t 52) (.t 54), some (51, false), [33, 34, 36]⟩,
  ⟨some 56, .fieldAddr 2 (.t 55), some (51, false), [33, 37]⟩,
  ⟨some 57, .load false 1 (.t 56), some (51, false), [33, 38]⟩,
  ⟨some 58, .move (.t 57), some (51, false), [33, 39]⟩,
  ⟨some 59, .fieldAddr 2 (.t 3), some (58, true), [40]⟩,
  ⟨some 60, .load false 1 (.t 59), some (58, true), [40, 41]⟩,
  ⟨some 61, .len false (.t 60), some (58, true), [40, 42]⟩,
  ⟨some 62, .bin .lss (.t 61) (.c (.d (.int .i64 2))), some (58, true), [40, 43]⟩,
  ⟨some 63, .pick (.t 58) (.t 62) (.c (.d (.bool false))), some (51, false), [33, 40, 44]⟩,
  ⟨some 64, .pick (.t 51) (.c (.d (.bool true))) (.t 63), none, [33, 45]⟩]
def r83_4 : List VOper := [
  ⟨some 4, .move (.c (.d (.bool false))), none, []⟩]
def r83_5 : List VOper := [
  ⟨some 5, .move (.c (.d (.int .i64 0))), none, []⟩]
def r83_6 : List VOper := [
  ⟨some 65, .move (.t 5), none, []⟩,
  ⟨some 66, .fieldAddr 2 (.t 3), none, []⟩,
  ⟨some 67, .load false 1 (.t 66), none, []⟩,
  ⟨some 68, .len false (.t 67), none, []⟩,
  ⟨some 69, .bin .lss (.t 65) (.t 68), none, []⟩]
def r83_8 : List VOper := [
  ⟨some 72, .move (.t 0), none, []⟩,
  ⟨some 73, .fieldAddr 0 (.t 3), none, []⟩,
  ⟨some 74, .load false 1 (.t 73), none, [1]⟩,
  ⟨some 75, .indexAddr 3 none (.t 72) (.t 74), none, [0, 2]⟩,
  ⟨some 76, .fieldAddr 2 (.t 75), none, [3]⟩,
  ⟨some 77, .load false 1 (.t 76), none, [4]⟩,
  ⟨some 78, .move (.t 77), none, [5]⟩,
  ⟨some 79, .fieldAddr 2 (.t 3), some (78, true), [6]⟩,
  ⟨some 80, .load false 1 (.t 79), some (78, true), [6, 7]⟩,
  ⟨some 81, .move (.t 5), some (78, true), [6]⟩,
  ⟨some 82, .indexAddr 3 none (.t 80) (.t 81), some (78, true), [6, 8, 9]⟩,
  ⟨some 83, .fieldAddr 0 (.t 82), some (78, true), [6, 10]⟩,
  ⟨some 84, .load false 1 (.t 83), some (78, true), [6, 11]⟩,
  ⟨some 85, .fieldAddr 0 (.t 3), some (78, true), [6]⟩,
  ⟨some 86, .load false 1 (.t 85), some (78, true), [6, 13]⟩,
  ⟨some 87, .bin .eql (.t 84) (.t 86), some (78, true), [6, 12, 14]⟩,
  ⟨some 88, .move (.t 87), some (78, true), [6, 15]⟩,
  ⟨some 89, .move (.t 5), some (88, false), [16]⟩,
  ⟨some 90, .bin .gtr (.t 89) (.c (.d (.int .i64 0))), some (88, false), [16, 17]⟩,
  ⟨some 91, .move (.t 90), some (88, false), [16, 18]⟩,
  ⟨some 92, .fieldAddr 2 (.t 3), some (91, true), [19]⟩,
  ⟨some 93, .load false 1 (.t 92), some (91, true), [19, 20]⟩,
  ⟨some 94, .move (.t 5), some (91, true), [19]⟩,
  ⟨some 95, .indexAddr 3 none (.t 93) (.t 94), some (91, true), [19, 21, 22]⟩,
  ⟨some 96, .load true 3 (.t 95), some (91, true), [19, 23]⟩,
  ⟨some 97, .fieldAddr 2 (.t 3), some (91, true), [19]⟩,
  ⟨some 98, .load false 1 (.t 97), some (91, true), [19, 25]⟩,
  ⟨some 99, .move (.t 5), some (91, true), [19]⟩,
  ⟨some 100, .bin .sub (.t 99) (.c (.d (.int .i64 1))), some (91, true), [19, 27]⟩,
  ⟨some 101, .indexAddr 3 none (.t 98) (.t 100), some (91, true), [19, 26, 28]⟩,
  ⟨some 102, .load true 3 (.t 101), some (91, true), [19, 29]⟩,
  ⟨some 103, .call true (.c (.fn 84 [])) [.t 96, .t 102], some (91, true), [19, 24, 30]⟩,
  ⟨some 104, .pick (.t 91) (.t 103) (.c (.d (.bool false))), some (88, false), [16, 19, 31]⟩,
  ⟨some 105, .pick (.t 88) (.c (.d (.bool true))) (.t 104), some (78, true), [6, 16, 32]⟩,
  ⟨some 106, .pick (.t 78) (.t 105) (.c (.d (.bool false))), none, [6, 33]⟩,
  ⟨some 107, .move (.t 106), none, [31, 34]⟩,
  ⟨some 108, .move (.t 0), some (107, false), [35]⟩,
  ⟨some 109, .fieldAddr 2 (.t 3), some (107, false), [35]⟩,
  ⟨some 110, .load false 1 (.t 109), some (107, false), [35, 37]⟩,
  ⟨some 111, .move (.t 5), some (107, false), [35]⟩,
  ⟨some 112, .indexAddr 3 none (.t 110) (.t 111), some (107, false), [35, 38, 39]⟩,
  ⟨some 113, .load true 3 (.t 112), some (107, false), [35, 40]⟩,
  ⟨some 114, .call true (.c (.fn 83 [])) [.t 108, .t 113], some (107, false), [35, 36, 41]⟩,
  ⟨some 115, .not (.t 114), some (107, false), [35, 42]⟩,
  ⟨some 116, .pick (.t 107) (.c (.d (.bool true))) (.t 115), none, [35, 43]⟩]
def r83_9 : List VOper := [
  ⟨some 4, .move (.c (.d (.bool false))), none, []⟩]
def r83_7 : List VOper := [
  ⟨some 70, .move (.t 5), none, []⟩,
  ⟨some 71, .bin .add (.t 70) (.c (.d (.int .i64 1))), none, []⟩,
  ⟨some 5, .move (.t 71), none, []⟩]
def b83_0 : VCode := (.seq (.seq (.region false 0 [0, 3, 5, 69] r83_6) (.cond (.t 69) .skip (.exit 0))) (.seq (.block 1 (.seq (.region true 0 [0, 3, 5, 116] r83_8) (.cond (.t 116) (.seq (.region false 0 [4] r83_9) .ret) .skip))) (.region false 0 [0, 3, 5] r83_7)))
def r83_10 : List VOper := [
  ⟨some 4, .move (.c (.d (.bool true))), none, []⟩]
def v83 : VFn := ⟨2, [.tmp 4], (.seq (.region false 1 [0, 3] r83_0) (.seq (.seq (.region false 0 [0, 3, 8] r83_1) (.cond (.t 8) (.seq (.region false 0 [4] r83_2) .ret) .skip)) (.seq (.seq (.region true 0 [0, 3, 64] r83_3) (.cond (.t 64) (.seq (.region false 0 [4] r83_4) .ret) .skip)) (.seq (.seq (.region false 0 [0, 3, 5] r83_5) (.block 0 (.loop [0, 3, 5] b83_0))) (.seq (.region false 0 [4] r83_10) .ret)))))⟩
/-! loop.example/g00461/spec.Before -/
def r84_0 : List VOper := [
  ⟨some 2, .box 0 (.t 0), none, []⟩,
  ⟨some 3, .box 1 (.t 1), none, []⟩,
  ⟨some 4, .move (.c (.d (.bool false))), none, []⟩]
def r84_1 : List VOper := [
  ⟨some 6, .fieldAddr 0 (.t 2), none, []⟩,
  ⟨some 7, .load false 1 (.t 6), none, []⟩,
  ⟨some 8, .fieldAddr 0 (.t 3), none, []⟩,
  ⟨some 9, .load false 1 (.t 8), none, []⟩,
  ⟨some 10, .bin .neq (.t 7) (.t 9), none, []⟩]
def r84_2 : List VOper := [
  ⟨some 11, .fieldAddr 0 (.t 2), none, []⟩,
  ⟨some 12, .load false 1 (.t 11), none, []⟩,
  ⟨some 13, .fieldAddr 0 (.t 3), none, []⟩,
  ⟨some 14, .load false 1 (.t 13), none, []⟩,
  ⟨some 15, .bin .lss (.t 12) (.t 14), none, []⟩,
  ⟨some 4, .move (.t 15), none, []⟩]
def r84_3 : List VOper := [
  ⟨some 16, .fieldAddr 1 (.t 2), none, []⟩,
  ⟨some 17, .load false 1 (.t 16), none, []⟩,
  ⟨some 18, .fieldAddr 1 (.t 3), none, []⟩,
  ⟨some 19, .load false 1 (.t 18), none, []⟩,
  ⟨some 20, .bin .neq (.t 17) (.t 19), none, []⟩]
def r84_4 : List VOper := [
  ⟨some 21, .fieldAddr 1 (.t 2), none, []⟩,
  ⟨some 22, .load false 1 (.t 21), none, []⟩,
  ⟨some 23, .fieldAddr 1 (.t 3), none, []⟩,
  ⟨some 24, .load false 1 (.t 23), none, []⟩,
  ⟨some 25, .bin .lss (.t 22) (.t 24), none, []⟩,
  ⟨some 4, .move (.t 25), none, []⟩]
def r84_5 : List VOper := [
  ⟨some 26, .fieldAddr 2 (.t 2), none, []⟩,
  ⟨some 27, .load false 1 (.t 26), none, []⟩,
  ⟨some 28, .len false (.t 27), none, []⟩,
  ⟨some 29, .fieldAddr 2 (.t 3), none, []⟩,
  ⟨some 30, .load false 1 (.t 29), none, []⟩,
  ⟨some 31, .len false (.t 30), none, []⟩,
  ⟨some 32, .bin .neq (.t 28) (.t 31), none, []⟩]
def r84_6 : List VOper := [
  ⟨some 33, .fieldAddr 2 (.t 2), none, []⟩,
  ⟨some 34, .load false 1 (.t 33), none, []⟩,
  ⟨some 35, .len false (.t 34), none, []⟩,
  ⟨some 36, .fieldAddr 2 (.t 3), none, []⟩,
  ⟨some 37, .load false 1 (.t 36), none, []⟩,
  ⟨some 38, .len false (.t 37), none, []⟩,
  ⟨some 39, .bin .lss (.t 35) (.t 38), none, []⟩,
  ⟨some 4, .move (.t 39), none, []⟩]
def r84_7 : List VOper := [
  ⟨some 5, .move (.c (.d (.int .i64 0))), none, []⟩]
def r84_8 : List VOper := [
  ⟨some 40, .move (.t 5), none, []⟩,
  ⟨some 41, .fieldAddr 2 (.t 2), none, []⟩,
  ⟨some 42, .load false 1 (.t 41), none, []⟩,
  ⟨some 43, .len false (.t 42), none, []⟩,
  ⟨some 44, .bin .lss (.t 40) (.t 43), none, []⟩]
def r84_10 : List VOper := [
  ⟨some 47, .fieldAddr 2 (.t 2), none, []⟩,
  ⟨some 48, .load false 1 (.t 47), none, [0]⟩,
  ⟨some 49, .move (.t 5), none, []⟩,
  ⟨some 50, .indexAddr 3 none (.t 48) (.t 49), none, [1, 2]⟩,
  ⟨some 51, .load true 3 (.t 50), none, [3]⟩,
  ⟨some 52, .fieldAddr 2 (.t 3), none, []⟩,
  ⟨some 53, .load false 1 (.t 52), none, [5]⟩,
  ⟨some 54, .move (.t 5), none, []⟩,
  ⟨some 55, .indexAddr 3 none (.t 53) (.t 54), none, [6, 7]⟩,
  ⟨some 56, .load true 3 (.t 55), none, [8]⟩,
  ⟨some 57, .call true (.c (.fn 3 [])) [.t 51, .t 56], none, [4, 9]⟩,
  ⟨some 58, .not (.t 57), none, [10]⟩]
def r84_11 : List VOper := [
  ⟨some 59, .fieldAddr 2 (.t 2), none, []⟩,
  ⟨some 60, .load false 1 (.t 59), none, [0]⟩,
  ⟨some 61, .move (.t 5), none, []⟩,
  ⟨some 62, .indexAddr 3 none (.t 60) (.t 61), none, [1, 2]⟩,
  ⟨some 63, .load true 3 (.t 62), none, [3]⟩,
  ⟨some 64, .fieldAddr 2 (.t 3), none, []⟩,
  ⟨some 65, .load false 1 (.t 64), none, [5]⟩,
  ⟨some 66, .move (.t 5), none, []⟩,
  ⟨some 67, .indexAddr 3 none (.t 65) (.t 66), none, [6, 7]⟩,
  ⟨some 68, .load true 3 (.t 67), none, [8]⟩,
  ⟨some 69, .call true (.c (.fn 84 [])) [.t 63, .t 68], none, [4, 9]⟩,
  ⟨some 4, .move (.t 69), none, [0, 1, 2, 3, 4, 5, 6, 7, 8, 9, 10]⟩]
def r84_9 : List VOper := [
  ⟨some 45, .move (.t 5), none, []⟩,
  ⟨some 46, .bin .add (.t 45) (.c (.d (.int .i64 1))), none, []⟩,
  ⟨some 5, .move (.t 46), none, []⟩]
def b84_0 : VCode := (.seq (.seq (.region false 0 [2, 3, 5, 44] r84_8) (.cond (.t 44) .skip (.exit 0))) (.seq (.block 1 (.seq (.region true 0 [2, 3, 5, 58] r84_10) (.cond (.t 58) (.seq (.region true 0 [4] r84_11) .ret) .skip))) (.region false 0 [2, 3, 5] r84_9)))
def r84_12 : List VOper := [
  ⟨some 4, .move (.c (.d (.bool false))), none, []⟩]
def v84 : VFn := ⟨2, [.tmp 4], (.seq (.region false 2 [2, 3] r84_0) (.seq (.seq (.region false 0 [2, 3, 10] r84_1) (.cond (.t 10) (.seq (.region false 0 [4] r84_2) .ret) .skip)) (.seq (.seq (.region false 0 [2, 3, 20] r84_3) (.cond (.t 20) (.seq (.region false 0 [4] r84_4) .ret) .skip)) (.seq (.seq (.region false 0 [2, 3, 32] r84_5) (.cond (.t 32) (.seq (.region false 0 [4] r84_6) .ret) .skip)) (.seq (.seq (.region false 0 [2, 3, 5] r84_7) (.block 0 (.loop [2, 3, 5] b84_0))) (.seq (.region false 0 [4] r84_12) .ret))))))⟩
/-! loop.example/g00461/spec.l1Bit -/
def r85_0 : List VOper := [
  ⟨some 2, .move (.c (.d (.int .i64 0))), none, []⟩]
def r85_1 : List VOper := [
  ⟨some 3, .move (.t 0), none, []⟩]
def r85_2 : List VOper := [
  ⟨some 2, .move (.c (.d (.int .i64 1))), none, []⟩]
def r85_3 : List VOper := [
  ⟨some 2, .move (.c (.d (.int .i64 0))), none, []⟩]
def v85 : VFn := ⟨1, [.tmp 2], (.seq (.region false 0 [0] r85_0) (.seq (.seq (.region false 0 [3] r85_1) (.cond (.t 3) (.seq (.region false 0 [2] r85_2) .ret) .skip)) (.seq (.region false 0 [2] r85_3) .ret)))⟩
/-! loop.example/g00461/laws.eqBind -/
def r86_0 : List VOper := [
  ⟨some 2, .box 0 (.t 0), none, []⟩,
  ⟨some 3, .box 1 (.t 1), none, []⟩,
  ⟨some 4, .move (.c (.d (.bool false))), none, []⟩]
def r86_1 : List VOper := [
  ⟨some 5, .fieldAddr 0 (.t 2), none, []⟩,
  ⟨some 6, .load false 1 (.t 5), none, []⟩,
  ⟨some 7, .fieldAddr 0 (.t 3), none, []⟩,
  ⟨some 8, .load false 1 (.t 7), none, []⟩,
  ⟨some 9, .bin .neq (.t 6) (.t 8), none, []⟩]
def r86_2 : List VOper := [
  ⟨some 4, .move (.c (.d (.bool false))), none, []⟩]
def r86_3 : List VOper := [
  ⟨some 10, .fieldAddr 1 (.t 2), none, []⟩,
  ⟨some 11, .load true 3 (.t 10), none, []⟩,
  ⟨some 12, .fieldAddr 1 (.t 3), none, []⟩,
  ⟨some 13, .load true 3 (.t 12), none, []⟩,
  ⟨some 14, .call true (.c (.fn 5 [])) [.t 11, .t 13], none, []⟩,
  ⟨some 15, .not (.t 14), none, []⟩]
def r86_4 : List VOper := [
  ⟨some 4, .move (.c (.d (.bool false))), none, []⟩]
def r86_5 : List VOper := [
  ⟨some 4, .move (.c (.d (.bool true))), none, []⟩]
def v86 : VFn := ⟨2, [.tmp 4], (.seq (.region false 2 [2, 3] r86_0) (.seq (.seq (.region false 0 [2, 3, 9] r86_1) (.cond (.t 9) (.seq (.region false 0 [4] r86_2) .ret) .skip)) (.seq (.seq (.region false 0 [15] r86_3) (.cond (.t 15) (.seq (.region false 0 [4] r86_4) .ret) .skip)) (.seq (.region false 0 [4] r86_5) .ret))))⟩
/-! loop.example/g00461/laws.toBind -/
def r87_0 : List VOper := [
  ⟨some 1, .box 0 (.t 0), none, []⟩,
  ⟨some 2, .alloc 1 [.int .i64 0, .int .i64 0, .int .i64 0, .sl .nil []], none, []⟩]
def r87_1 : List VOper := [
  ⟨some 3, .alloc 0 [.int .i64 0, .int .i64 0, .int .i64 0, .sl .nil []], none, []⟩]
def r87_2 : List VOper := [
  ⟨some 4, .fieldAddr 0 (.t 1), none, []⟩,
  ⟨some 5, .load false 1 (.t 4), none, []⟩,
  ⟨some 6, .fieldAddr 0 (.t 3), none, []⟩,
  ⟨none, .store false 1 (.t 6) (.t 5), none, []⟩]
def r87_3 : List VOper := [
  ⟨some 7, .fieldAddr 1 (.t 1), none, []⟩,
  ⟨some 8, .load true 3 (.t 7), none, []⟩,
  ⟨some 9, .call true (.c (.fn 2 [])) [.t 8], none, []⟩,
  ⟨some 10, .fieldAddr 1 (.t 3), none, []⟩,
  ⟨none, .store false 3 (.t 10) (.t 9), none, []⟩]
def r87_4 : List VOper := [
  ⟨some 11, .load true 4 (.t 3), none, []⟩,
  ⟨none, .store false 4 (.t 2) (.t 11), none, []⟩]
def v87 : VFn := ⟨1, [.cell 2 true 4], (.seq (.region false 2 [1, 2] r87_0) (.seq (.region false 1 [1, 2, 3] r87_1) (.seq (.region false 0 [1, 2, 3] r87_2) (.seq (.region false 0 [2, 3] r87_3) (.seq (.region false 0 [2] r87_4) .ret)))))⟩
/-! loop.example/g00461/laws.szBind -/
def r88_0 : List VOper := [
  ⟨some 2, .box 0 (.t 0), none, []⟩,
  ⟨some 4, .move (.c (.d (.int .i64 0))), none, []⟩]
def r88_1 : List VOper := [
  ⟨some 5, .fieldAddr 1 (.t 2), none, []⟩,
  ⟨some 6, .load true 3 (.t 5), none, []⟩,
  ⟨some 7, .move (.t 1), none, []⟩,
  ⟨some 8, .call true (.c (.fn 1 [])) [.t 6, .t 7], none, []⟩,
  ⟨some 1, .move (.t 8), none, []⟩]
def r88_2 : List VOper := [
  ⟨some 9, .move (.t 1), none, []⟩,
  ⟨some 10, .bin .lss (.t 9) (.c (.d (.int .i64 0))), none, []⟩]
def r88_3 : List VOper := [
  ⟨some 4, .move (.c (.d (.int .i64 (-1)))), none, []⟩]
def r88_4 : List VOper := [
  ⟨some 11, .move (.t 1), none, []⟩,
  ⟨some 4, .move (.t 11), none, []⟩]
def v88 : VFn := ⟨2, [.tmp 4], (.seq (.region false 1 [1, 2] r88_0) (.seq (.region false 0 [1] r88_1) (.seq (.seq (.region false 0 [1, 10] r88_2) (.cond (.t 10) (.seq (.region false 0 [4] r88_3) .ret) .skip)) (.seq (.region false 0 [4] r88_4) .ret))))⟩
/-! loop.example/g00461/laws.FnExactSubText -/
def r89_0 : List VOper := [
  ⟨some 4, .move (.c (.d (.bool false))), none, []⟩]
def r89_1 : List VOper := [
  ⟨some 5, .move (.c (.d (.int .i64 1048576))), none, []⟩]
def r89_2 : List VOper := [
  ⟨some 10, .move (.t 0), none, []⟩,
  ⟨some 11, .move (.t 5), none, []⟩,
  ⟨some 12, .call true (.c (.fn 11 [])) [.t 10, .t 11], none, []⟩,
  ⟨some 5, .move (.t 12), none, []⟩]
def r89_3 : List VOper := [
  ⟨some 13, .move (.t 5), none, []⟩,
  ⟨some 14, .bin .lss (.t 13) (.c (.d (.int .i64 0))), none, []⟩]
def r89_4 : List VOper := [
  ⟨some 4, .move (.c (.d (.bool true))), none, []⟩]
def r89_5 : List VOper := [
  ⟨some 15, .move (.t 1), none, []⟩,
  ⟨some 16, .move (.t 5), none, []⟩,
  ⟨some 17, .call true (.c (.fn 65 [])) [.t 15, .t 16], none, []⟩,
  ⟨some 5, .move (.t 17), none, []⟩]
def r89_6 : List VOper := [
  ⟨some 18, .move (.t 5), none, []⟩,
  ⟨some 19, .bin .lss (.t 18) (.c (.d (.int .i64 0))), none, []⟩]
def r89_7 : List VOper := [
  ⟨some 4, .move (.c (.d (.bool true))), none, []⟩]
def r89_8 : List VOper := [
  ⟨some 20, .move (.t 0), none, []⟩,
  ⟨some 21, .call true (.c (.fn 12 [])) [.t 20], none, []⟩,
  ⟨some 22, .move (.t 1), none, []⟩,
  ⟨some 23, .call true (.c (.fn 66 [])) [.t 22], none, []⟩,
  ⟨some 24, .call true (.c (.fn 90 [])) [.t 21, .t 23], none, []⟩,
  ⟨some 6, .move (.t 24), none, []⟩]
def r89_9 : List VOper := [
  ⟨some 25, .move (.t 0), none, []⟩,
  ⟨some 26, .call true (.c (.fn 12 [])) [.t 25], none, []⟩,
  ⟨some 7, .move (.t 26), none, []⟩]
def r89_10 : List VOper := [
  ⟨some 27, .move (.t 1), none, []⟩,
  ⟨some 28, .call true (.c (.fn 66 [])) [.t 27], none, []⟩,
  ⟨some 8, .move (.t 28), none, []⟩]
def r89_11 : List VOper := [
  ⟨some 29, .move (.t 7), none, []⟩,
  ⟨some 30, .move (.t 8), none, []⟩,
  ⟨some 31, .call true (.c (.fn 91 [])) [.t 29, .t 30], none, []⟩,
  ⟨some 9, .move (.t 31), none, []⟩]
def r89_12 : List VOper := [
  ⟨some 32, .move (.t 9), none, []⟩,
  ⟨some 33, .move (.t 6), none, []⟩,
  ⟨some 34, .bin .neq (.t 32) (.t 33), none, []⟩]
def r89_13 : List VOper := [
  ⟨some 4, .move (.c (.d (.bool false))), none, []⟩]
def r89_14 : List VOper := [
  ⟨some 35, .move (.t 7), none, []⟩,
  ⟨some 36, .move (.t 0), none, []⟩,
  ⟨some 37, .call true (.c (.fn 12 [])) [.t 36], none, []⟩,
  ⟨some 38, .call true (.c (.fn 15 [])) [.t 35, .t 37], none, []⟩,
  ⟨some 39, .not (.t 38), none, []⟩]
def r89_15 : List VOper := [
  ⟨some 4, .move (.c (.d (.bool false))), none, []⟩]
def r89_16 : List VOper := [
  ⟨some 40, .move (.t 8), none, []⟩,
  ⟨some 41, .move (.t 1), none, []⟩,
  ⟨some 42, .call true (.c (.fn 66 [])) [.t 41], none, []⟩,
  ⟨some 43, .call true (.c (.fn 69 [])) [.t 40, .t 42], none, []⟩,
  ⟨some 44, .not (.t 43), none, []⟩]
def r89_17 : List VOper := [
  ⟨some 4, .move (.c (.d (.bool false))), none, []⟩]
def r89_18 : List VOper := [
  ⟨some 4, .move (.c (.d (.bool true))), none, []⟩]
def v89 : VFn := ⟨2, [.tmp 4], (.seq (.region false 0 [0, 1] r89_0) (.seq (.region false 0 [0, 1, 5] r89_1) (.seq (.region false 0 [0, 1, 5] r89_2) (.seq (.seq (.region false 0 [0, 1, 5, 14] r89_3) (.cond (.t 14) (.seq (.region false 0 [4] r89_4) .ret) .skip)) (.seq (.region false 0 [0, 1, 5] r89_5) (.seq (.seq (.region false 0 [0, 1, 19] r89_6) (.cond (.t 19) (.seq (.region false 0 [4] r89_7) .ret) .skip)) (.seq (.region false 0 [0, 1, 6] r89_8) (.seq (.region false 0 [0, 1, 6, 7] r89_9) (.seq (.region false 0 [0, 1, 6, 7, 8] r89_10) (.seq (.region false 0 [0, 1, 6, 7, 8, 9] r89_11) (.seq (.seq (.region false 0 [0, 1, 7, 8, 34] r89_12) (.cond (.t 34) (.seq (.region false 0 [4] r89_13) .ret) .skip)) (.seq (.seq (.region false 0 [1, 8, 39] r89_14) (.cond (.t 39) (.seq (.region false 0 [4] r89_15) .ret) .skip)) (.seq (.seq (.region false 0 [44] r89_16) (.cond (.t 44) (.seq (.region false 0 [4] r89_17) .ret) .skip)) (.seq (.region false 0 [4] r89_18) .ret))))))))))))))⟩
/-! loop.example/g00461/spec.SubText -/
def r90_0 : List VOper := [
  ⟨some 4, .move (.c (.d (.str ⟨#[]⟩))), none, []⟩]
def r90_1 : List VOper := [
  ⟨some 5, .move (.c (.d (.str ⟨#[]⟩))), none, []⟩]
def r90_2 : List VOper := [
  ⟨some 6, .move (.c (.d (.int .i64 0))), none, []⟩]
def r90_3 : List VOper := [
  ⟨some 7, .move (.t 6), none, []⟩,
  ⟨some 8, .move (.t 1), none, []⟩,
  ⟨some 9, .len false (.t 8), none, []⟩,
  ⟨some 10, .bin .lss (.t 7) (.t 9), none, []⟩]
def r90_5 : List VOper := [
  ⟨some 13, .move (.t 6), none, []⟩,
  ⟨some 14, .bin .gtr (.t 13) (.c (.d (.int .i64 0))), none, []⟩]
def r90_6 : List VOper := [
  ⟨some 15, .move (.t 5), none, []⟩,
  ⟨some 16, .bin .add (.t 15) (.c (.d (.str ⟨#[59]⟩))), none, []⟩,
  ⟨some 5, .move (.t 16), none, []⟩]
def r90_7 : List VOper := [
  ⟨some 17, .move (.t 5), none, []⟩,
  ⟨some 18, .bin .add (.t 17) (.c (.d (.str ⟨#[88]⟩))), none, [0]⟩,
  ⟨some 19, .move (.t 1), none, []⟩,
  ⟨some 20, .move (.t 6), none, []⟩,
  ⟨some 21, .indexAddr 4 none (.t 19) (.t 20), none, [2, 3]⟩,
  ⟨some 22, .fieldAddr 0 (.t 21), none, [4]⟩,
  ⟨some 23, .load false 1 (.t 22), none, [5]⟩,
  ⟨some 24, .call true (.c (.fn 39 [])) [.t 23], none, [6]⟩,
  ⟨some 25, .bin .add (.t 18) (.t 24), none, [1, 7]⟩,
  ⟨some 26, .bin .add (.t 25) (.c (.d (.str ⟨#[61]⟩))), none, [8]⟩,
  ⟨some 27, .move (.t 0), none, []⟩,
  ⟨some 28, .move (.t 1), none, []⟩,
  ⟨some 29, .move (.t 6), none, []⟩,
  ⟨some 30, .indexAddr 4 none (.t 28) (.t 29), none, [11, 12]⟩,
  ⟨some 31, .fieldAddr 1 (.t 30), none, [13]⟩,
  ⟨some 32, .load true 3 (.t 31), none, [14]⟩,
  ⟨some 33, .call true (.c (.fn 98 [])) [.t 27, .t 32], none, [7, 10, 15]⟩,
  ⟨some 34, .bin .add (.t 26) (.t 33), none, [9, 16]⟩,
  ⟨some 5, .move (.t 34), none, [0, 1, 2, 3, 4, 5, 6, 7, 8, 9, 10, 11, 12, 13, 14, 15, 16, 17]⟩]
def r90_4 : List VOper := [
  ⟨some 11, .move (.t 6), none, []⟩,
  ⟨some 12, .bin .add (.t 11) (.c (.d (.int .i64 1))), none, []⟩,
  ⟨some 6, .move (.t 12), none, []⟩]
def b90_0 : VCode := (.seq (.seq (.region false 0 [0, 1, 5, 6, 10] r90_3) (.cond (.t 10) .skip (.exit 0))) (.seq (.block 1 (.seq (.seq (.region false 0 [0, 1, 5, 6, 14] r90_5) (.cond (.t 14) (.region false 0 [0, 1, 5, 6] r90_6) .skip)) (.region true 0 [0, 1, 5, 6] r90_7))) (.region false 0 [0, 1, 5, 6] r90_4)))
def r90_8 : List VOper := [
  ⟨some 35, .move (.t 5), none, []⟩,
  ⟨some 4, .move (.t 35), none, []⟩]
def v90 : VFn := ⟨2, [.tmp 4], (.seq (.region false 0 [0, 1] r90_0) (.seq (.region false 0 [0, 1, 5] r90_1) (.seq (.seq (.region false 0 [0, 1, 5, 6] r90_2) (.block 0 (.loop [0, 1, 5, 6] b90_0))) (.seq (.region false 0 [4] r90_8) .ret))))⟩
/-! loop.example/g00461/impl.SubText -/
def r91_0 : List VOper := [
  ⟨some 4, .move (.c (.d (.str ⟨#[]⟩))), none, []⟩]
def r91_1 : List VOper := [
  ⟨some 8, .buildSlice 1 (.str ⟨#[]⟩) 0 [], none, []⟩,
  ⟨some 5, .move (.t 8), none, []⟩]
def r91_2 : List VOper := [
  ⟨some 9, .move (.t 1), none, []⟩,
  ⟨some 10, .len false (.t 9), none, []⟩,
  ⟨some 11, .move (.c (.d (.int .i64 0))), none, []⟩]
def r91_3 : List VOper := [
  ⟨some 12, .bin .lss (.t 11) (.t 10), none, []⟩]
def r91_4 : List VOper := [
  ⟨some 13, .indexAddr 4 none (.t 9) (.t 11), none, []⟩,
  ⟨some 14, .load true 4 (.t 13), none, []⟩,
  ⟨some 7, .alloc 0 [.int .i64 0, .int .i64 0, .int .i64 0, .sl .nil []], none, []⟩,
  ⟨none, .store false 4 (.t 7) (.t 14), none, []⟩]
def r91_5 : List VOper := [
  ⟨some 15, .move (.t 5), none, []⟩,
  ⟨some 16, .fieldAddr 0 (.t 7), none, []⟩,
  ⟨some 17, .load false 1 (.t 16), none, [1]⟩,
  ⟨some 18, .call true (.c (.fn 38 [])) [.t 17], none, [2]⟩,
  ⟨some 19, .bin .add (.c (.d (.str ⟨#[88]⟩))) (.t 18), none, [3]⟩,
  ⟨some 20, .bin .add (.t 19) (.c (.d (.str ⟨#[61]⟩))), none, [4]⟩,
  ⟨some 21, .move (.t 0), none, []⟩,
  ⟨some 22, .fieldAddr 1 (.t 7), none, []⟩,
  ⟨some 23, .load true 3 (.t 22), none, [7]⟩,
  ⟨some 24, .call true (.c (.fn 92 [])) [.t 21, .t 23], none, [3, 6, 8]⟩,
  ⟨some 25, .bin .add (.t 20) (.t 24), none, [5, 9]⟩,
  ⟨some 26, .buildSlice 1 (.str ⟨#[]⟩) 1 [(0, .t 25)], none, [10]⟩,
  ⟨some 27, .append 1 16 (.t 15) (.t 26), none, [0, 9, 11]⟩,
  ⟨some 5, .move (.t 27), none, [0, 1, 2, 3, 4, 5, 6, 7, 8, 9, 10, 11, 12]⟩]
def r91_6 : List VOper := [
  ⟨some 28, .bin .add (.t 11) (.c (.d (.int .i64 1))), none, []⟩,
  ⟨some 11, .move (.t 28), none, []⟩]
def b91_0 : VCode := (.seq (.region false 0 [0, 5, 9, 10, 11, 12] r91_3) (.seq (.cond (.t 12) .skip (.exit 0)) (.seq (.block 1 (.seq (.region false 1 [0, 5, 7, 9, 10, 11] r91_4) (.region true 0 [0, 5, 9, 10, 11] r91_5))) (.region false 0 [0, 5, 9, 10, 11] r91_6))))
def r91_7 : List VOper := [
  ⟨some 29, .move (.t 5), none, []⟩,
  ⟨some 30, .call true (.c (.fn 93 [])) [.t 29, .c (.d (.str ⟨#[59]⟩))], none, []⟩,
  ⟨some 4, .move (.t 30), none, []⟩]
def v91 : VFn := ⟨2, [.tmp 4], (.seq (.region false 0 [0, 1] r91_0) (.seq (.region false 0 [0, 1, 5] r91_1) (.seq (.seq (.region false 0 [0, 5, 9, 10, 11] r91_2) (.block 0 (.loop [0, 5, 9, 10, 11] b91_0))) (.seq (.region false 0 [4] r91_7) .ret))))⟩
/-! loop.example/g00461/impl.TermText -/
def r92_0 : List VOper := [
  ⟨some 3, .box 0 (.t 1), none, []⟩,
  ⟨some 4, .move (.c (.d (.str ⟨#[]⟩))), none, []⟩]
def r92_1 : List VOper := [
  ⟨some 9, .load true 3 (.t 3), none, []⟩,
  ⟨some 10, .call true (.c (.fn 75 [])) [.t 9], none, []⟩]
def r92_2 : List VOper := [
  ⟨some 11, .fieldAddr 1 (.t 3), none, []⟩,
  ⟨some 12, .load false 1 (.t 11), none, []⟩,
  ⟨some 13, .call true (.c (.fn 38 [])) [.t 12], none, []⟩,
  ⟨some 14, .bin .add (.c (.d (.str ⟨#[88]⟩))) (.t 13), none, []⟩,
  ⟨some 4, .move (.t 14), none, []⟩]
def r92_3 : List VOper := [
  ⟨some 5, .move (.c (.d (.str ⟨#[63]⟩))), none, []⟩]
def r92_4 : List VOper := [
  ⟨some 15, .move (.t 0), none, []⟩,
  ⟨some 16, .fieldAddr 0 (.t 3), none, []⟩,
  ⟨some 17, .load false 1 (.t 16), none, []⟩,
  ⟨some 18, .call true (.c (.fn 29 [])) [.t 15, .t 17], none, []⟩]
def r92_5 : List VOper := [
  ⟨some 19, .move (.t 0), none, []⟩,
  ⟨some 20, .fieldAddr 0 (.t 3), none, []⟩,
  ⟨some 21, .load false 1 (.t 20), none, []⟩,
  ⟨some 22, .indexAddr 3 none (.t 19) (.t 21), none, []⟩,
  ⟨some 23, .fieldAddr 0 (.t 22), none, []⟩,
  ⟨some 24, .load false 1 (.t 23), none, []⟩,
  ⟨some 5, .move (.t 24), none, []⟩]
def r92_6 : List VOper := [
  ⟨some 25, .fieldAddr 2 (.t 3), none, []⟩,
  ⟨some 26, .load false 1 (.t 25), none, []⟩,
  ⟨some 27, .len false (.t 26), none, []⟩,
  ⟨some 28, .bin .eql (.t 27) (.c (.d (.int .i64 0))), none, []⟩]
def r92_7 : List VOper := [
  ⟨some 29, .move (.t 5), none, []⟩,
  ⟨some 4, .move (.t 29), none, []⟩]
def r92_8 : List VOper := [
  ⟨some 30, .buildSlice 1 (.str ⟨#[]⟩) 0 [], none, []⟩,
  ⟨some 6, .move (.t 30), none, []⟩]
def r92_9 : List VOper := [
  ⟨some 31, .fieldAddr 2 (.t 3), none, []⟩,
  ⟨some 32, .load false 1 (.t 31), none, []⟩,
  ⟨some 33, .len false (.t 32), none, []⟩,
  ⟨some 34, .move (.c (.d (.int .i64 0))), none, []⟩]
def r92_10 : List VOper := [
  ⟨some 35, .bin .lss (.t 34) (.t 33), none, []⟩]
def r92_11 : List VOper := [
  ⟨some 36, .indexAddr 3 none (.t 32) (.t 34), none, []⟩,
  ⟨some 37, .load true 3 (.t 36), none, []⟩,
  ⟨some 8, .alloc 0 [.int .i64 0, .int .i64 0, .sl .nil []], none, []⟩,
  ⟨none, .store false 3 (.t 8) (.t 37), none, []⟩]
def r92_12 : List VOper := [
  ⟨some 38, .move (.t 6), none, []⟩,
  ⟨some 39, .move (.t 0), none, []⟩,
  ⟨some 40, .load true 3 (.t 8), none, []⟩,
  ⟨some 41, .call true (.c (.fn 92 [])) [.t 39, .t 40], none, []⟩,
  ⟨some 42, .buildSlice 1 (.str ⟨#[]⟩) 1 [(0, .t 41)], none, []⟩,
  ⟨some 43, .append 1 16 (.t 38) (.t 42), none, []⟩,
  ⟨some 6, .move (.t 43), none, []⟩]
def r92_13 : List VOper := [
  ⟨some 44, .bin .add (.t 34) (.c (.d (.int .i64 1))), none, []⟩,
  ⟨some 34, .move (.t 44), none, []⟩]
def b92_0 : VCode := (.seq (.region false 0 [0, 5, 6, 32, 33, 34, 35] r92_10) (.seq (.cond (.t 35) .skip (.exit 0)) (.seq (.block 1 (.seq (.region false 1 [0, 5, 6, 8, 32, 33, 34] r92_11) (.region false 0 [0, 5, 6, 32, 33, 34] r92_12))) (.region false 0 [0, 5, 6, 32, 33, 34] r92_13))))
def r92_14 : List VOper := [
  ⟨some 45, .move (.t 5), none, []⟩,
  ⟨some 46, .bin .add (.t 45) (.c (.d (.str ⟨#[40]⟩))), none, []⟩,
  ⟨some 47, .move (.t 6), none, []⟩,
  ⟨some 48, .call true (.c (.fn 93 [])) [.t 47, .c (.d (.str ⟨#[44]⟩))], none, []⟩,
  ⟨some 49, .bin .add (.t 46) (.t 48), none, []⟩,
  ⟨some 50, .bin .add (.t 49) (.c (.d (.str ⟨#[41]⟩))), none, []⟩,
  ⟨some 4, .move (.t 50), none, []⟩]
def v92 : VFn := ⟨2, [.tmp 4], (.seq (.region false 1 [0, 3] r92_0) (.seq (.seq (.region false 0 [0, 3, 10] r92_1) (.cond (.t 10) (.seq (.region false 0 [4] r92_2) .ret) .skip)) (.seq (.region false 0 [0, 3, 5] r92_3) (.seq (.seq (.region false 0 [0, 3, 5, 18] r92_4) (.cond (.t 18) (.region false 0 [0, 3, 5] r92_5) .skip)) (.seq (.seq (.region false 0 [0, 3, 5, 28] r92_6) (.cond (.t 28) (.seq (.region false 0 [4] r92_7) .ret) .skip)) (.seq (.region false 0 [0, 3, 5, 6] r92_8) (.seq (.seq (.region false 0 [0, 5, 6, 32, 33, 34] r92_9) (.block 0 (.loop [0, 5, 6, 32, 33, 34] b92_0))) (.seq (.region false 0 [4] r92_14) .ret))))))))⟩
/-! loop.example/g00461/spec.TermText -/
def r98_0 : List VOper := [
  ⟨some 3, .box 0 (.t 1), none, []⟩,
  ⟨some 4, .move (.c (.d (.str ⟨#[]⟩))), none, []⟩]
def r98_1 : List VOper := [
  ⟨some 7, .fieldAddr 0 (.t 3), none, []⟩,
  ⟨some 8, .load false 1 (.t 7), none, []⟩,
  ⟨some 9, .bin .eql (.t 8) (.c (.d (.int .i64 (-1)))), none, []⟩]
def r98_2 : List VOper := [
  ⟨some 10, .fieldAddr 1 (.t 3), none, []⟩,
  ⟨some 11, .load false 1 (.t 10), none, []⟩,
  ⟨some 12, .call true (.c (.fn 39 [])) [.t 11], none, []⟩,
  ⟨some 13, .bin .add (.c (.d (.str ⟨#[88]⟩))) (.t 12), none, []⟩,
  ⟨some 4, .move (.t 13), none, []⟩]
def r98_3 : List VOper := [
  ⟨some 5, .move (.c (.d (.str ⟨#[63]⟩))), none, []⟩]
def r98_4 : List VOper := [
  ⟨some 14, .fieldAddr 0 (.t 3), none, []⟩,
  ⟨some 15, .load false 1 (.t 14), none, []⟩,
  ⟨some 16, .move (.t 0), none, []⟩,
  ⟨some 17, .len false (.t 16), none, []⟩,
  ⟨some 18, .bin .sub (.t 17) (.c (.d (.int .i64 1))), none, []⟩,
  ⟨some 19, .call true (.c (.fn 31 [])) [.t 15, .c (.d (.int .i64 0)), .t 18], none, []⟩]
def r98_5 : List VOper := [
  ⟨some 20, .move (.t 0), none, []⟩,
  ⟨some 21, .fieldAddr 0 (.t 3), none, []⟩,
  ⟨some 22, .load false 1 (.t 21), none, []⟩,
  ⟨some 23, .indexAddr 3 none (.t 20) (.t 22), none, []⟩,
  ⟨some 24, .fieldAddr 0 (.t 23), none, []⟩,
  ⟨some 25, .load false 1 (.t 24), none, []⟩,
  ⟨some 5, .move (.t 25), none, []⟩]
def r98_6 : List VOper := [
  ⟨some 6, .move (.c (.d (.int .i64 0))), none, []⟩]
def r98_7 : List VOper := [
  ⟨some 26, .move (.t 6), none, []⟩,
  ⟨some 27, .fieldAddr 2 (.t 3), none, []⟩,
  ⟨some 28, .load false 1 (.t 27), none, []⟩,
  ⟨some 29, .len false (.t 28), none, []⟩,
  ⟨some 30, .bin .lss (.t 26) (.t 29), none, []⟩]
def r98_9 : List VOper := [
  ⟨some 33, .move (.t 6), none, []⟩,
  ⟨some 34, .bin .eql (.t 33) (.c (.d (.int .i64 0))), none, []⟩]
def r98_10 : List VOper := [
  ⟨some 35, .move (.t 5), none, []⟩,
  ⟨some 36, .bin .add (.t 35) (.c (.d (.str ⟨#[40]⟩))), none, []⟩,
  ⟨some 5, .move (.t 36), none, []⟩]
def r98_11 : List VOper := [
  ⟨some 37, .move (.t 5), none, []⟩,
  ⟨some 38, .bin .add (.t 37) (.c (.d (.str ⟨#[44]⟩))), none, []⟩,
  ⟨some 5, .move (.t 38), none, []⟩]
def r98_12 : List VOper := [
  ⟨some 39, .move (.t 5), none, []⟩,
  ⟨some 40, .move (.t 0), none, []⟩,
  ⟨some 41, .fieldAddr 2 (.t 3), none, []⟩,
  ⟨some 42, .load false 1 (.t 41), none, []⟩,
  ⟨some 43, .move (.t 6), none, []⟩,
  ⟨some 44, .indexAddr 3 none (.t 42) (.t 43), none, []⟩,
  ⟨some 45, .load true 3 (.t 44), none, []⟩,
  ⟨some 46, .call true (.c (.fn 98 [])) [.t 40, .t 45], none, []⟩,
  ⟨some 47, .bin .add (.t 39) (.t 46), none, []⟩,
  ⟨some 5, .move (.t 47), none, []⟩]
def r98_8 : List VOper := [
  ⟨some 31, .move (.t 6), none, []⟩,
  ⟨some 32, .bin .add (.t 31) (.c (.d (.int .i64 1))), none, []⟩,
  ⟨some 6, .move (.t 32), none, []⟩]
def b98_0 : VCode := (.seq (.seq (.region false 0 [0, 3, 5, 6, 30] r98_7) (.cond (.t 30) .skip (.exit 0))) (.seq (.block 1 (.seq (.seq (.region false 0 [0, 3, 5, 6, 34] r98_9) (.cond (.t 34) (.region false 0 [0, 3, 5, 6] r98_10) (.region false 0 [0, 3, 5, 6] r98_11))) (.region false 0 [0, 3, 5, 6] r98_12))) (.region false 0 [0, 3, 5, 6] r98_8)))
def r98_13 : List VOper := [
  ⟨some 48, .fieldAddr 2 (.t 3), none, []⟩,
  ⟨some 49, .load false 1 (.t 48), none, []⟩,
  ⟨some 50, .len false (.t 49), none, []⟩,
  ⟨some 51, .bin .gtr (.t 50) (.c (.d (.int .i64 0))), none, []⟩]
def r98_14 : List VOper := [
  ⟨some 52, .move (.t 5), none, []⟩,
  ⟨some 53, .bin .add (.t 52) (.c (.d (.str ⟨#[41]⟩))), none, []⟩,
  ⟨some 4, .move (.t 53), none, []⟩]
def r98_15 : List VOper := [
  ⟨some 54, .move (.t 5), none, []⟩,
  ⟨some 4, .move (.t 54), none, []⟩]
def v98 : VFn := ⟨2, [.tmp 4], (.seq (.region false 1 [0, 3] r98_0) (.seq (.seq (.region false 0 [0, 3, 9] r98_1) (.cond (.t 9) (.seq (.region false 0 [4] r98_2) .ret) .skip)) (.seq (.region false 0 [0, 3, 5] r98_3) (.seq (.seq (.region false 0 [0, 3, 5, 19] r98_4) (.cond (.t 19) (.region false 0 [0, 3, 5] r98_5) .skip)) (.seq (.seq (.region false 0 [0, 3, 5, 6] r98_6) (.block 0 (.loop [0, 3, 5, 6] b98_0))) (.seq (.seq (.region false 0 [5, 51] r98_13) (.cond (.t 51) (.seq (.region false 0 [4] r98_14) .ret) .skip)) (.seq (.region false 0 [4] r98_15) .ret)))))))⟩
/-! loop.example/g00461/laws.FnExactTermOk -/
def r99_0 : List VOper := [
  ⟨some 3, .box 0 (.t 1), none, []⟩,
  ⟨some 4, .move (.c (.d (.bool false))), none, []⟩]
def r99_1 : List VOper := [
  ⟨some 5, .move (.c (.d (.int .i64 1048576))), none, []⟩]
def r99_2 : List VOper := [
  ⟨some 10, .move (.t 0), none, []⟩,
  ⟨some 11, .move (.t 5), none, []⟩,
  ⟨some 12, .call true (.c (.fn 11 [])) [.t 10, .t 11], none, []⟩,
  ⟨some 5, .move (.t 12), none, []⟩]
def r99_3 : List VOper := [
  ⟨some 13, .move (.t 5), none, []⟩,
  ⟨some 14, .bin .lss (.t 13) (.c (.d (.int .i64 0))), none, []⟩]
def r99_4 : List VOper := [
  ⟨some 4, .move (.c (.d (.bool true))), none, []⟩]
def r99_5 : List VOper := [
  ⟨some 15, .load true 3 (.t 3), none, []⟩,
  ⟨some 16, .move (.t 5), none, []⟩,
  ⟨some 17, .call true (.c (.fn 1 [])) [.t 15, .t 16], none, []⟩,
  ⟨some 5, .move (.t 17), none, []⟩]
def r99_6 : List VOper := [
  ⟨some 18, .move (.t 5), none, []⟩,
  ⟨some 19, .bin .lss (.t 18) (.c (.d (.int .i64 0))), none, []⟩]
def r99_7 : List VOper := [
  ⟨some 4, .move (.c (.d (.bool true))), none, []⟩]
def r99_8 : List VOper := [
  ⟨some 20, .move (.t 0), none, []⟩,
  ⟨some 21, .call true (.c (.fn 12 [])) [.t 20], none, [0]⟩,
  ⟨some 22, .load true 3 (.t 3), none, []⟩,
  ⟨some 23, .call true (.c (.fn 2 [])) [.t 22], none, [1, 2]⟩,
  ⟨some 24, .call true (.c (.fn 80 [])) [.t 21, .t 23], none, [1, 3]⟩,
  ⟨some 6, .move (.t 24), none, [0, 1, 2, 3, 4]⟩]
def r99_9 : List VOper := [
  ⟨some 25, .move (.t 0), none, []⟩,
  ⟨some 26, .call true (.c (.fn 12 [])) [.t 25], none, []⟩,
  ⟨some 7, .move (.t 26), none, []⟩]
def r99_10 : List VOper := [
  ⟨some 27, .load true 3 (.t 3), none, []⟩,
  ⟨some 28, .call true (.c (.fn 2 [])) [.t 27], none, []⟩,
  ⟨some 8, .alloc 0 [.int .i64 0, .int .i64 0, .sl .nil []], none, []⟩,
  ⟨none, .store false 3 (.t 8) (.t 28), none, []⟩]
def r99_11 : List VOper := [
  ⟨some 29, .move (.t 7), none, []⟩,
  ⟨some 30, .load true 3 (.t 8), none, []⟩,
  ⟨some 31, .call true (.c (.fn 70 [])) [.t 29, .t 30], none, []⟩,
  ⟨some 9, .move (.t 31), none, []⟩]
def r99_12 : List VOper := [
  ⟨some 32, .move (.t 9), none, []⟩,
  ⟨some 33, .move (.t 6), none, []⟩,
  ⟨some 34, .eqB true (.t 32) (.t 33), none, []⟩]
def r99_13 : List VOper := [
  ⟨some 4, .move (.c (.d (.bool false))), none, []⟩]
def r99_14 : List VOper := [
  ⟨some 35, .move (.t 7), none, []⟩,
  ⟨some 36, .move (.t 0), none, []⟩,
  ⟨some 37, .call true (.c (.fn 12 [])) [.t 36], none, []⟩,
  ⟨some 38, .call true (.c (.fn 15 [])) [.t 35, .t 37], none, []⟩,
  ⟨some 39, .not (.t 38), none, []⟩]
def r99_15 : List VOper := [
  ⟨some 4, .move (.c (.d (.bool false))), none, []⟩]
def r99_16 : List VOper := [
  ⟨some 40, .load true 3 (.t 8), none, []⟩,
  ⟨some 41, .load true 3 (.t 3), none, []⟩,
  ⟨some 42, .call true (.c (.fn 2 [])) [.t 41], none, [1]⟩,
  ⟨some 43, .call true (.c (.fn 5 [])) [.t 40, .t 42], none, [0, 2]⟩,
  ⟨some 44, .not (.t 43), none, [3]⟩]
def r99_17 : List VOper := [
  ⟨some 4, .move (.c (.d (.bool false))), none, []⟩]
def r99_18 : List VOper := [
  ⟨some 4, .move (.c (.d (.bool true))), none, []⟩]
def v99 : VFn := ⟨2, [.tmp 4], (.seq (.region false 1 [0, 3] r99_0) (.seq (.region false 0 [0, 3, 5] r99_1) (.seq (.region false 0 [0, 3, 5] r99_2) (.seq (.seq (.region false 0 [0, 3, 5, 14] r99_3) (.cond (.t 14) (.seq (.region false 0 [4] r99_4) .ret) .skip)) (.seq (.region false 0 [0, 3, 5] r99_5) (.seq (.seq (.region false 0 [0, 3, 19] r99_6) (.cond (.t 19) (.seq (.region false 0 [4] r99_7) .ret) .skip)) (.seq (.region true 0 [0, 3, 6] r99_8) (.seq (.region false 0 [0, 3, 6, 7] r99_9) (.seq (.region false 1 [0, 3, 6, 7, 8] r99_10) (.seq (.region false 0 [0, 3, 6, 7, 8, 9] r99_11) (.seq (.seq (.region false 0 [0, 3, 7, 8, 34] r99_12) (.cond (.t 34) (.seq (.region false 0 [4] r99_13) .ret) .skip)) (.seq (.seq (.region false 0 [3, 8, 39] r99_14) (.cond (.t 39) (.seq (.region false 0 [4] r99_15) .ret) .skip)) (.seq (.seq (.region true 0 [44] r99_16) (.cond (.t 44) (.seq (.region false 0 [4] r99_17) .ret) .skip)) (.seq (.region false 0 [4] r99_18) .ret))))))))))))))⟩
/-! loop.example/g00461/laws.FnExactTermText -/
def r100_0 : List VOper := [
  ⟨some 3, .box 0 (.t 1), none, []⟩,
  ⟨some 4, .move (.c (.d (.bool false))), none, []⟩]
def r100_1 : List VOper := [
  ⟨some 5, .move (.c (.d (.int .i64 1048576))), none, []⟩]
def r100_2 : List VOper := [
  ⟨some 10, .move (.t 0), none, []⟩,
  ⟨some 11, .move (.t 5), none, []⟩,
  ⟨some 12, .call true (.c (.fn 11 [])) [.t 10, .t 11], none, []⟩,
  ⟨some 5, .move (.t 12), none, []⟩]
def r100_3 : List VOper := [
  ⟨some 13, .move (.t 5), none, []⟩,
  ⟨some 14, .bin .lss (.t 13) (.c (.d (.int .i64 0))), none, []⟩]
def r100_4 : List VOper := [
  ⟨some 4, .move (.c (.d (.bool true))), none, []⟩]
def r100_5 : List VOper := [
  ⟨some 15, .load true 3 (.t 3), none, []⟩,
  ⟨some 16, .move (.t 5), none, []⟩,
  ⟨some 17, .call true (.c (.fn 1 [])) [.t 15, .t 16], none, []⟩,
  ⟨some 5, .move (.t 17), none, []⟩]
def r100_6 : List VOper := [
  ⟨some 18, .move (.t 5), none, []⟩,
  ⟨some 19, .bin .lss (.t 18) (.c (.d (.int .i64 0))), none, []⟩]
def r100_7 : List VOper := [
  ⟨some 4, .move (.c (.d (.bool true))), none, []⟩]
def r100_8 : List VOper := [
  ⟨some 20, .move (.t 0), none, []⟩,
  ⟨some 21, .call true (.c (.fn 12 [])) [.t 20], none, [0]⟩,
  ⟨some 22, .load true 3 (.t 3), none, []⟩,
  ⟨some 23, .call true (.c (.fn 2 [])) [.t 22], none, [1, 2]⟩,
  ⟨some 24, .call true (.c (.fn 98 [])) [.t 21, .t 23], none, [1, 3]⟩,
  ⟨some 6, .move (.t 24), none, [0, 1, 2, 3, 4]⟩]
def r100_9 : List VOper := [
  ⟨some 25, .move (.t 0), none, []⟩,
  ⟨some 26, .call true (.c (.fn 12 [])) [.t 25], none, []⟩,
  ⟨some 7, .move (.t 26), none, []⟩]
def r100_10 : List VOper := [
  ⟨some 27, .load true 3 (.t 3), none, []⟩,
  ⟨some 28, .call true (.c (.fn 2 [])) [.t 27], none, []⟩,
  ⟨some 8, .alloc 0 [.int .i64 0, .int .i64 0, .sl .nil []], none, []⟩,
  ⟨none, .store false 3 (.t 8) (.t 28), none, []⟩]
def r100_11 : List VOper := [
  ⟨some 29, .move (.t 7), none, []⟩,
  ⟨some 30, .load true 3 (.t 8), none, []⟩,
  ⟨some 31, .call true (.c (.fn 92 [])) [.t 29, .t 30], none, []⟩,
  ⟨some 9, .move (.t 31), none, []⟩]
def r100_12 : List VOper := [
  ⟨some 32, .move (.t 9), none, []⟩,
  ⟨some 33, .move (.t 6), none, []⟩,
  ⟨some 34, .bin .neq (.t 32) (.t 33), none, []⟩]
def r100_13 : List VOper := [
  ⟨some 4, .move (.c (.d (.bool false))), none, []⟩]
def r100_14 : List VOper := [
  ⟨some 35, .move (.t 7), none, []⟩,
  ⟨some 36, .move (.t 0), none, []⟩,
  ⟨some 37, .call true (.c (.fn 12 [])) [.t 36], none, []⟩,
  ⟨some 38, .call true (.c (.fn 15 [])) [.t 35, .t 37], none, []⟩,
  ⟨some 39, .not (.t 38), none, []⟩]
def r100_15 : List VOper := [
  ⟨some 4, .move (.c (.d (.bool false))), none, []⟩]
def r100_16 : List VOper := [
  ⟨some 40, .load true 3 (.t 8), none, []⟩,
  ⟨some 41, .load true 3 (.t 3), none, []⟩,
  ⟨some 42, .call true (.c (.fn 2 [])) [.t 41], none, [1]⟩,
  ⟨some 43, .call true (.c (.fn 5 [])) [.t 40, .t 42], none, [0, 2]⟩,
  ⟨some 44, .not (.t 43), none, [3]⟩]
def r100_17 : List VOper := [
  ⟨some 4, .move (.c (.d (.bool false))), none, []⟩]
def r100_18 : List VOper := [
  ⟨some 4, .move (.c (.d (.bool true))), none, []⟩]
def v100 : VFn := ⟨2, [.tmp 4], (.seq (.region false 1 [0, 3] r100_0) (.seq (.region false 0 [0, 3, 5] r100_1) (.seq (.region false 0 [0, 3, 5] r100_2) (.seq (.seq (.region false 0 [0, 3, 5, 14] r100_3) (.cond (.t 14) (.seq (.region false 0 [4] r100_4) .ret) .skip)) (.seq (.region false 0 [0, 3, 5] r100_5) (.seq (.seq (.region false 0 [0, 3, 19] r100_6) (.cond (.t 19) (.seq (.region false 0 [4] r100_7) .ret) .skip)) (.seq (.region true 0 [0, 3, 6] r100_8) (.seq (.region false 0 [0, 3, 6, 7] r100_9) (.seq (.region false 1 [0, 3, 6, 7, 8] r100_10) (.seq (.region false 0 [0, 3, 6, 7, 8, 9] r100_11) (.seq (.seq (.region false 0 [0, 3, 7, 8, 34] r100_12) (.cond (.t 34) (.seq (.region false 0 [4] r100_13) .ret) .skip)) (.seq (.seq (.region false 0 [3, 8, 39] r100_14) (.cond (.t 39) (.seq (.region false 0 [4] r100_15) .ret) .skip)) (.seq (.seq (.region true 0 [44] r100_16) (.cond (.t 44) (.seq (.region false 0 [4] r100_17) .ret) .skip)) (.seq (.region false 0 [4] r100_18) .ret))))))))))))))⟩
/-! loop.example/g00461/laws.FnExactGround -/
def r101_0 : List VOper := [
  ⟨some 1, .box 0 (.t 0), none, []⟩,
  ⟨some 2, .move (.c (.d (.bool false))), none, []⟩]
def r101_1 : List VOper := [
  ⟨some 3, .move (.c (.d (.int .i64 1048576))), none, []⟩]
def r101_2 : List VOper := [
  ⟨some 7, .load true 3 (.t 1), none, []⟩,
  ⟨some 8, .move (.t 3), none, []⟩,
  ⟨some 9, .call true (.c (.fn 1 [])) [.t 7, .t 8], none, []⟩,
  ⟨some 3, .move (.t 9), none, []⟩]
def r101_3 : List VOper := [
  ⟨some 10, .move (.t 3), none, []⟩,
  ⟨some 11, .bin .lss (.t 10) (.c (.d (.int .i64 0))), none, []⟩]
def r101_4 : List VOper := [
  ⟨some 2, .move (.c (.d (.bool true))), none, []⟩]
def r101_5 : List VOper := [
  ⟨some 12, .load true 3 (.t 1), none, []⟩,
  ⟨some 13, .call true (.c (.fn 2 [])) [.t 12], none, []⟩,
  ⟨some 14, .call true (.c (.fn 102 [])) [.t 13], none, []⟩,
  ⟨some 4, .move (.t 14), none, []⟩]
def r101_6 : List VOper := [
  ⟨some 15, .load true 3 (.t 1), none, []⟩,
  ⟨some 16, .call true (.c (.fn 2 [])) [.t 15], none, []⟩,
  ⟨some 5, .alloc 0 [.int .i64 0, .int .i64 0, .sl .nil []], none, []⟩,
  ⟨none, .store false 3 (.t 5) (.t 16), none, []⟩]
def r101_7 : List VOper := [
  ⟨some 17, .load true 3 (.t 5), none, []⟩,
  ⟨some 18, .call true (.c (.fn 103 [])) [.t 17], none, []⟩,
  ⟨some 6, .move (.t 18), none, []⟩]
def r101_8 : List VOper := [
  ⟨some 19, .move (.t 6), none, []⟩,
  ⟨some 20, .move (.t 4), none, []⟩,
  ⟨some 21, .eqB true (.t 19) (.t 20), none, []⟩]
def r101_9 : List VOper := [
  ⟨some 2, .move (.c (.d (.bool false))), none, []⟩]
def r101_10 : List VOper := [
  ⟨some 22, .load true 3 (.t 5), none, []⟩,
  ⟨some 23, .load true 3 (.t 1), none, []⟩,
  ⟨some 24, .call true (.c (.fn 2 [])) [.t 23], none, [1]⟩,
  ⟨some 25, .call true (.c (.fn 5 [])) [.t 22, .t 24], none, [0, 2]⟩,
  ⟨some 26, .not (.t 25), none, [3]⟩]
def r101_11 : List VOper := [
  ⟨some 2, .move (.c (.d (.bool false))), none, []⟩]
def r101_12 : List VOper := [
  ⟨some 2, .move (.c (.d (.bool true))), none, []⟩]
def v101 : VFn := ⟨1, [.tmp 2], (.seq (.region false 1 [1] r101_0) (.seq (.region false 0 [1, 3] r101_1) (.seq (.region false 0 [1, 3] r101_2) (.seq (.seq (.region false 0 [1, 11] r101_3) (.cond (.t 11) (.seq (.region false 0 [2] r101_4) .ret) .skip)) (.seq (.region false 0 [1, 4] r101_5) (.seq (.region false 1 [1, 4, 5] r101_6) (.seq (.region false 0 [1, 4, 5, 6] r101_7) (.seq (.seq (.region false 0 [1, 5, 21] r101_8) (.cond (.t 21) (.seq (.region false 0 [2] r101_9) .ret) .skip)) (.seq (.seq (.region true 0 [26] r101_10) (.cond (.t 26) (.seq (.region false 0 [2] r101_11) .ret) .skip)) (.seq (.region false 0 [2] r101_12) .ret))))))))))⟩
/-! loop.example/g00461/spec.Ground -/
def r102_0 : List VOper := [
  ⟨some 1, .box 0 (.t 0), none, []⟩,
  ⟨some 2, .move (.c (.d (.bool false))), none, []⟩]
def r102_1 : List VOper := [
  ⟨some 3, .load true 3 (.t 1), none, []⟩,
  ⟨some 4, .call true (.c (.fn 110 [])) [.t 3], none, []⟩,
  ⟨some 5, .len false (.t 4), none, []⟩,
  ⟨some 6, .bin .eql (.t 5) (.c (.d (.int .i64 0))), none, []⟩,
  ⟨some 2, .move (.t 6), none, []⟩]
def v102 : VFn := ⟨1, [.tmp 2], (.seq (.region false 1 [1] r102_0) (.seq (.region false 0 [2] r102_1) .ret))⟩
/-! loop.example/g00461/impl.Ground -/
def r103_0 : List VOper := [
  ⟨some 1, .box 0 (.t 0), none, []⟩,
  ⟨some 2, .move (.c (.d (.bool false))), none, []⟩]
def r103_1 : List VOper := [
  ⟨some 3, .load true 3 (.t 1), none, []⟩,
  ⟨some 4, .call true (.c (.fn 104 [])) [.t 3], none, []⟩,
  ⟨some 5, .len false (.t 4), none, []⟩,
  ⟨some 6, .bin .eql (.t 5) (.c (.d (.int .i64 0))), none, []⟩,
  ⟨some 2, .move (.t 6), none, []⟩]
def v103 : VFn := ⟨1, [.tmp 2], (.seq (.region false 1 [1] r103_0) (.seq (.region false 0 [2] r103_1) .ret))⟩
/-! loop.example/g00461/impl.VarsOf -/
def r104_0 : List VOper := [
  ⟨some 1, .box 0 (.t 0), none, []⟩,
  ⟨some 2, .move (.c (.d (.sl .nil []))), none, []⟩]
def r104_1 : List VOper := [
  ⟨some 4, .buildSlice 1 (.int .i64 0) 0 [], none, []⟩,
  ⟨some 3, .alloc 0 [.sl .nil []], none, []⟩,
  ⟨none, .store false 1 (.t 3) (.t 4), none, []⟩]
def r104_2 : List VOper := [
  ⟨some 5, .load true 3 (.t 1), none, []⟩,
  ⟨some 6, .makeFunc 105 [.t 3], none, []⟩,
  ⟨some 7, .call false (.c (.fn 25 [])) [.t 5, .t 6], none, []⟩]
def r104_3 : List VOper := [
  ⟨some 8, .load false 1 (.t 3), none, []⟩,
  ⟨some 2, .move (.t 8), none, []⟩]
def v104 : VFn := ⟨1, [.tmp 2], (.seq (.region false 1 [1] r104_0) (.seq (.region false 1 [1, 3] r104_1) (.seq (.region false 0 [3] r104_2) (.seq (.region false 0 [2] r104_3) .ret))))⟩
/-! loop.example/g00461/impl.VarsOf$1 -/
def r105_0 : List VOper := [
  ⟨some 2, .box 0 (.t 0), none, []⟩]
def r105_1 : List VOper := [
  ⟨some 3, .load true 3 (.t 2), none, []⟩,
  ⟨some 4, .call true (.c (.fn 75 [])) [.t 3], none, []⟩]
def r105_2 : List VOper := [
  ⟨some 5, .load false 1 (.t 1), none, []⟩,
  ⟨some 6, .fieldAddr 1 (.t 2), none, []⟩,
  ⟨some 7, .load false 1 (.t 6), none, []⟩,
  ⟨some 8, .call true (.c (.fn 106 [])) [.t 5, .t 7], none, []⟩,
  ⟨none, .store false 1 (.t 1) (.t 8), none, []⟩]
def v105 : VFn := ⟨2, [], (.seq (.region false 1 [1, 2] r105_0) (.seq (.region false 0 [1, 2, 4] r105_1) (.cond (.t 4) (.region false 0 [] r105_2) .skip)))⟩
/-! loop.example/g00461/impl.NumAdd -/
def r106_0 : List VOper := [
  ⟨some 3, .box 0 (.t 1), none, []⟩,
  ⟨some 4, .move (.c (.d (.sl .nil []))), none, []⟩]
def r106_1 : List VOper := [
  ⟨some 7, .move (.t 0), none, []⟩,
  ⟨some 8, .call true (.c (.fn 107 [])) [.t 7], none, []⟩,
  ⟨some 5, .move (.t 8), none, []⟩]
def r106_2 : List VOper := [
  ⟨some 9, .move (.t 0), none, []⟩,
  ⟨some 10, .load false 1 (.t 3), none, []⟩,
  ⟨some 11, .call true (.c (.fn 54 [])) [.t 9, .t 10], none, []⟩]
def r106_3 : List VOper := [
  ⟨some 12, .move (.t 5), none, []⟩,
  ⟨some 4, .move (.t 12), none, []⟩]
def r106_4 : List VOper := [
  ⟨some 13, .move (.t 0), none, []⟩,
  ⟨some 14, .makeFunc 108 [.t 3], none, []⟩,
  ⟨some 15, .call false (.c (.fn 47 [])) [.t 13, .t 14], none, []⟩,
  ⟨some 6, .move (.t 15), none, []⟩]
def r106_5 : List VOper := [
  ⟨some 16, .move (.t 6), none, []⟩,
  ⟨some 17, .bin .lss (.t 16) (.c (.d (.int .i64 0))), none, []⟩]
def r106_6 : List VOper := [
  ⟨some 18, .move (.t 0), none, []⟩,
  ⟨some 19, .len false (.t 18), none, []⟩,
  ⟨some 6, .move (.t 19), none, []⟩]
def r106_7 : List VOper := [
  ⟨some 20, .move (.t 5), none, []⟩,
  ⟨some 21, .move (.t 6), none, []⟩,
  ⟨some 22, .load false 1 (.t 3), none, []⟩,
  ⟨some 23, .buildSlice 1 (.int .i64 0) 1 [(0, .t 22)], none, []⟩,
  ⟨some 24, .call true (.c (.fn 109 [])) [.t 20, .t 21, .t 23], none, []⟩,
  ⟨some 4, .move (.t 24), none, []⟩]
def v106 : VFn := ⟨2, [.tmp 4], (.seq (.region false 1 [0, 3] r106_0) (.seq (.region false 0 [0, 3, 5] r106_1) (.seq (.seq (.region false 0 [0, 3, 5, 11] r106_2) (.cond (.t 11) (.seq (.region false 0 [4] r106_3) .ret) .skip)) (.seq (.region false 0 [0, 3, 5, 6] r106_4) (.seq (.seq (.region false 0 [0, 3, 5, 6, 17] r106_5) (.cond (.t 17) (.region false 0 [3, 5, 6] r106_6) .skip)) (.seq (.region false 0 [4] r106_7) .ret))))))⟩
/-! slices.Clone[[]int,int] -/
def r107_0 : List VOper := [
  ⟨some 2, .move (.c (.d (.sl .nil []))), none, []⟩]
def r107_1 : List VOper := [
  ⟨some 3, .move (.t 0), none, []⟩,
  ⟨some 4, .eqNil false (.t 3), none, []⟩]
def r107_2 : List VOper := [
  ⟨some 2, .move (.c (.d (.sl .nil []))), none, []⟩]
def r107_3 : List VOper := [
  ⟨some 5, .buildSlice 1 (.int .i64 0) 0 [], none, []⟩,
  ⟨some 6, .move (.t 0), none, []⟩,
  ⟨some 7, .append 1 8 (.t 5) (.t 6), none, []⟩,
  ⟨some 2, .move (.t 7), none, []⟩]
def v107 : VFn := ⟨1, [.tmp 2], (.seq (.region false 0 [0] r107_0) (.seq (.seq (.region false 0 [0, 4] r107_1) (.cond (.t 4) (.seq (.region false 0 [2] r107_2) .ret) .skip)) (.seq (.region false 0 [2] r107_3) .ret)))⟩
/-! loop.example/g00461/impl.NumAdd$1 -/
def r108_0 : List VOper := [
  ⟨some 3, .move (.c (.d (.bool false))), none, []⟩]
def r108_1 : List VOper := [
  ⟨some 4, .move (.t 0), none, []⟩,
  ⟨some 5, .load false 1 (.t 1), none, []⟩,
  ⟨some 6, .bin .gtr (.t 4) (.t 5), none, []⟩,
  ⟨some 3, .move (.t 6), none, []⟩]
def v108 : VFn := ⟨2, [.tmp 3], (.seq (.region false 0 [0, 1] r108_0) (.seq (.region false 0 [3] r108_1) .ret))⟩
/-! loop.example/g00461/spec.VarsOf -/
def r110_0 : List VOper := [
  ⟨some 1, .box 0 (.t 0), none, []⟩,
  ⟨some 2, .move (.c (.d (.sl .nil []))), none, []⟩]
def r110_1 : List VOper := [
  ⟨some 3, .load true 3 (.t 1), none, []⟩,
  ⟨some 4, .buildSlice 1 (.int .i64 0) 0 [], none, []⟩,
  ⟨some 5, .call true (.c (.fn 111 [])) [.t 3, .t 4], none, []⟩,
  ⟨some 2, .move (.t 5), none, []⟩]
def v110 : VFn := ⟨1, [.tmp 2], (.seq (.region false 1 [1] r110_0) (.seq (.region false 0 [2] r110_1) .ret))⟩
/-! loop.example/g00461/spec.l3Vars -/
def r111_0 : List VOper := [
  ⟨some 2, .box 0 (.t 0), none, []⟩,
  ⟨some 4, .move (.c (.d (.sl .nil []))), none, []⟩]
def r111_1 : List VOper := [
  ⟨some 6, .fieldAddr 0 (.t 2), none, []⟩,
  ⟨some 7, .load false 1 (.t 6), none, []⟩,
  ⟨some 8, .bin .eql (.t 7) (.c (.d (.int .i64 (-1)))), none, []⟩]
def r111_2 : List VOper := [
  ⟨some 9, .move (.t 1), none, []⟩,
  ⟨some 10, .fieldAddr 1 (.t 2), none, []⟩,
  ⟨some 11, .load false 1 (.t 10), none, []⟩,
  ⟨some 12, .call true (.c (.fn 112 [])) [.t 9, .t 11], none, []⟩,
  ⟨some 1, .move (.t 12), none, []⟩]
def r111_3 : List VOper := [
  ⟨some 5, .move (.c (.d (.int .i64 0))), none, []⟩]
def r111_4 : List VOper := [
  ⟨some 13, .move (.t 5), none, []⟩,
  ⟨some 14, .fieldAddr 2 (.t 2), none, []⟩,
  ⟨some 15, .load false 1 (.t 14), none, []⟩,
  ⟨some 16, .len false (.t 15), none, []⟩,
  ⟨some 17, .bin .lss (.t 13) (.t 16), none, []⟩]
def r111_6 : List VOper := [
  ⟨some 20, .fieldAddr 2 (.t 2), none, []⟩,
  ⟨some 21, .load false 1 (.t 20), none, []⟩,
  ⟨some 22, .move (.t 5), none, []⟩,
  ⟨some 23, .indexAddr 3 none (.t 21) (.t 22), none, []⟩,
  ⟨some 24, .load true 3 (.t 23), none, []⟩,
  ⟨some 25, .move (.t 1), none, []⟩,
  ⟨some 26, .call true (.c (.fn 111 [])) [.t 24, .t 25], none, []⟩,
  ⟨some 1, .move (.t 26), none, []⟩]
def r111_5 : List VOper := [
  ⟨some 18, .move (.t 5), none, []⟩,
  ⟨some 19, .bin .add (.t 18) (.c (.d (.int .i64 1))), none, []⟩,
  ⟨some 5, .move (.t 19), none, []⟩]
def b111_0 : VCode := (.seq (.seq (.region false 0 [1, 2, 5, 17] r111_4) (.cond (.t 17) .skip (.exit 0))) (.seq (.block 1 (.region false 0 [1, 2, 5] r111_6)) (.region false 0 [1, 2, 5] r111_5)))
def r111_7 : List VOper := [
  ⟨some 27, .move (.t 1), none, []⟩,
  ⟨some 4, .move (.t 27), none, []⟩]
def v111 : VFn := ⟨2, [.tmp 4], (.seq (.region false 1 [1, 2] r111_0) (.seq (.seq (.region false 0 [1, 2, 8] r111_1) (.cond (.t 8) (.region false 0 [1, 2] r111_2) .skip)) (.seq (.seq (.region false 0 [1, 2, 5] r111_3) (.block 0 (.loop [1, 2, 5] b111_0))) (.seq (.region false 0 [4] r111_7) .ret))))⟩
/-! loop.example/g00461/spec.NumAdd -/
def r112_0 : List VOper := [
  ⟨some 4, .move (.c (.d (.sl .nil []))), none, []⟩]
def r112_1 : List VOper := [
  ⟨some 7, .move (.t 0), none, []⟩,
  ⟨some 8, .move (.t 1), none, []⟩,
  ⟨some 9, .call true (.c (.fn 53 [])) [.t 7, .t 8], none, []⟩]
def r112_2 : List VOper := [
  ⟨some 10, .buildSlice 1 (.int .i64 0) 0 [], none, []⟩,
  ⟨some 11, .move (.t 0), none, []⟩,
  ⟨some 12, .append 1 8 (.t 10) (.t 11), none, []⟩,
  ⟨some 4, .move (.t 12), none, []⟩]
def r112_3 : List VOper := [
  ⟨some 5, .move (.c (.d (.int .i64 0))), none, []⟩]
def r112_4 : List VOper := [
  ⟨some 13, .move (.t 5), none, []⟩,
  ⟨some 14, .move (.t 0), none, []⟩,
  ⟨some 15, .len false (.t 14), none, []⟩,
  ⟨some 16, .bin .lss (.t 13) (.t 15), none, []⟩,
  ⟨some 17, .move (.t 16), none, []⟩,
  ⟨some 18, .move (.t 0), some (17, true), []⟩,
  ⟨some 19, .move (.t 5), some (17, true), []⟩,
  ⟨some 20, .indexAddr 1 none (.t 18) (.t 19), some (17, true), []⟩,
  ⟨some 21, .load false 1 (.t 20), some (17, true), []⟩,
  ⟨some 22, .move (.t 1), some (17, true), []⟩,
  ⟨some 23, .bin .lss (.t 21) (.t 22), some (17, true), []⟩,
  ⟨some 24, .pick (.t 17) (.t 23) (.c (.d (.bool false))), none, []⟩]
def r112_5 : List VOper := [
  ⟨some 25, .move (.t 5), none, []⟩,
  ⟨some 26, .bin .add (.t 25) (.c (.d (.int .i64 1))), none, []⟩,
  ⟨some 5, .move (.t 26), none, []⟩]
def b112_0 : VCode := (.seq (.seq (.region false 0 [0, 1, 5, 24] r112_4) (.cond (.t 24) .skip (.exit 0))) (.block 1 (.region false 0 [0, 1, 5] r112_5)))
def r112_6 : List VOper := [
  ⟨some 27, .buildSlice 1 (.int .i64 0) 0 [], none, []⟩,
  ⟨some 28, .move (.t 0), none, []⟩,
  ⟨some 29, .move (.t 5), none, []⟩,
  ⟨some 30, .slice false 1 (.t 28) none (some (.t 29)), none, []⟩,
  ⟨some 31, .append 1 8 (.t 27) (.t 30), none, []⟩,
  ⟨some 6, .move (.t 31), none, []⟩]
def r112_7 : List VOper := [
  ⟨some 32, .move (.t 6), none, []⟩,
  ⟨some 33, .move (.t 1), none, []⟩,
  ⟨some 34, .buildSlice 1 (.int .i64 0) 1 [(0, .t 33)], none, []⟩,
  ⟨some 35, .append 1 8 (.t 32) (.t 34), none, []⟩,
  ⟨some 6, .move (.t 35), none, []⟩]
def r112_8 : List VOper := [
  ⟨some 36, .move (.t 6), none, []⟩,
  ⟨some 37, .move (.t 0), none, []⟩,
  ⟨some 38, .move (.t 5), none, []⟩,
  ⟨some 39, .slice false 1 (.t 37) (some (.t 38)) none, none, []⟩,
  ⟨some 40, .append 1 8 (.t 36) (.t 39), none, []⟩,
  ⟨some 4, .move (.t 40), none, []⟩]
def v112 : VFn := ⟨2, [.tmp 4], (.seq (.region false 0 [0, 1] r112_0) (.seq (.seq (.region false 0 [0, 1, 9] r112_1) (.cond (.t 9) (.seq (.region false 0 [4] r112_2) .ret) .skip)) (.seq (.region false 0 [0, 1, 5] r112_3) (.seq (.block 0 (.loop [0, 1, 5] b112_0)) (.seq (.region false 0 [0, 1, 5, 6] r112_6) (.seq (.region false 0 [0, 5, 6] r112_7) (.seq (.region false 0 [4] r112_8) .ret)))))))⟩
/-! loop.example/g00461/laws.FnExactSigText -/
def r113_0 : List VOper := [
  ⟨some 2, .move (.c (.d (.bool false))), none, []⟩]
def r113_1 : List VOper := [
  ⟨some 3, .move (.c (.d (.int .i64 1048576))), none, []⟩]
def r113_2 : List VOper := [
  ⟨some 7, .move (.t 0), none, []⟩,
  ⟨some 8, .move (.t 3), none, []⟩,
  ⟨some 9, .call true (.c (.fn 11 [])) [.t 7, .t 8], none, []⟩,
  ⟨some 3, .move (.t 9), none, []⟩]
def r113_3 : List VOper := [
  ⟨some 10, .move (.t 3), none, []⟩,
  ⟨some 11, .bin .lss (.t 10) (.c (.d (.int .i64 0))), none, []⟩]
def r113_4 : List VOper := [
  ⟨some 2, .move (.c (.d (.bool true))), none, []⟩]
def r113_5 : List VOper := [
  ⟨some 12, .move (.t 0), none, []⟩,
  ⟨some 13, .call true (.c (.fn 12 [])) [.t 12], none, []⟩,
  ⟨some 14, .call true (.c (.fn 114 [])) [.t 13], none, []⟩,
  ⟨some 4, .move (.t 14), none, []⟩]
def r113_6 : List VOper := [
  ⟨some 15, .move (.t 0), none, []⟩,
  ⟨some 16, .call true (.c (.fn 12 [])) [.t 15], none, []⟩,
  ⟨some 5, .move (.t 16), none, []⟩]
def r113_7 : List VOper := [
  ⟨some 17, .move (.t 5), none, []⟩,
  ⟨some 18, .call true (.c (.fn 115 [])) [.t 17], none, []⟩,
  ⟨some 6, .move (.t 18), none, []⟩]
def r113_8 : List VOper := [
  ⟨some 19, .move (.t 6), none, []⟩,
  ⟨some 20, .move (.t 4), none, []⟩,
  ⟨some 21, .bin .neq (.t 19) (.t 20), none, []⟩]
def r113_9 : List VOper := [
  ⟨some 2, .move (.c (.d (.bool false))), none, []⟩]
def r113_10 : List VOper := [
  ⟨some 22, .move (.t 5), none, []⟩,
  ⟨some 23, .move (.t 0), none, []⟩,
  ⟨some 24, .call true (.c (.fn 12 [])) [.t 23], none, []⟩,
  ⟨some 25, .call true (.c (.fn 15 [])) [.t 22, .t 24], none, []⟩,
  ⟨some 26, .not (.t 25), none, []⟩]
def r113_11 : List VOper := [
  ⟨some 2, .move (.c (.d (.bool false))), none, []⟩]
def r113_12 : List VOper := [
  ⟨some 2, .move (.c (.d (.bool true))), none, []⟩]
def v113 : VFn := ⟨1, [.tmp 2], (.seq (.region false 0 [0] r113_0) (.seq (.region false 0 [0, 3] r113_1) (.seq (.region false 0 [0, 3] r113_2) (.seq (.seq (.region false 0 [0, 11] r113_3) (.cond (.t 11) (.seq (.region false 0 [2] r113_4) .ret) .skip)) (.seq (.region false 0 [0, 4] r113_5) (.seq (.region false 0 [0, 4, 5] r113_6) (.seq (.region false 0 [0, 4, 5, 6] r113_7) (.seq (.seq (.region false 0 [0, 5, 21] r113_8) (.cond (.t 21) (.seq (.region false 0 [2] r113_9) .ret) .skip)) (.seq (.seq (.region false 0 [26] r113_10) (.cond (.t 26) (.seq (.region false 0 [2] r113_11) .ret) .skip)) (.seq (.region false 0 [2] r113_12) .ret))))))))))⟩
/-! loop.example/g00461/spec.SigText -/
def r114_0 : List VOper := [
  ⟨some 2, .move (.c (.d (.str ⟨#[]⟩))), none, []⟩]
def r114_1 : List VOper := [
  ⟨some 3, .move (.c (.d (.str ⟨#[]⟩))), none, []⟩]
def r114_2 : List VOper := [
  ⟨some 4, .move (.c (.d (.int .i64 0))), none, []⟩]
def r114_3 : List VOper := [
  ⟨some 5, .move (.t 4), none, []⟩,
  ⟨some 6, .move (.t 0), none, []⟩,
  ⟨some 7, .len false (.t 6), none, []⟩,
  ⟨some 8, .bin .lss (.t 5) (.t 7), none, []⟩]
def r114_5 : List VOper := [
  ⟨some 11, .move (.t 4), none, []⟩,
  ⟨some 12, .bin .gtr (.t 11) (.c (.d (.int .i64 0))), none, []⟩]
def r114_6 : List VOper := [
  ⟨some 13, .move (.t 3), none, []⟩,
  ⟨some 14, .bin .add (.t 13) (.c (.d (.str ⟨#[32]⟩))), none, []⟩,
  ⟨some 3, .move (.t 14), none, []⟩]
def r114_7 : List VOper := [
  ⟨some 15, .move (.t 3), none, []⟩,
  ⟨some 16, .move (.t 0), none, []⟩,
  ⟨some 17, .move (.t 4), none, []⟩,
  ⟨some 18, .indexAddr 3 none (.t 16) (.t 17), none, [1, 2]⟩,
  ⟨some 19, .fieldAddr 0 (.t 18), none, [3]⟩,
  ⟨some 20, .load false 1 (.t 19), none, [4]⟩,
  ⟨some 21, .bin .add (.t 15) (.t 20), none, [0, 5]⟩,
  ⟨some 22, .bin .add (.t 21) (.c (.d (.str ⟨#[47]⟩))), none, [6]⟩,
  ⟨some 23, .move (.t 0), none, []⟩,
  ⟨some 24, .move (.t 4), none, []⟩,
  ⟨some 25, .indexAddr 3 none (.t 23) (.t 24), none, [8, 9]⟩,
  ⟨some 26, .fieldAddr 1 (.t 25), none, [10]⟩,
  ⟨some 27, .load false 1 (.t 26), none, [11]⟩,
  ⟨some 28, .call true (.c (.fn 39 [])) [.t 27], none, [12]⟩,
  ⟨some 29, .bin .add (.t 22) (.t 28), none, [7, 13]⟩,
  ⟨some 3, .move (.t 29), none, [0, 1, 2, 3, 4, 5, 6, 7, 8, 9, 10, 11, 12, 13, 14]⟩]
def r114_8 : List VOper := [
  ⟨some 30, .move (.t 0), none, []⟩,
  ⟨some 31, .move (.t 4), none, []⟩,
  ⟨some 32, .indexAddr 3 none (.t 30) (.t 31), none, []⟩,
  ⟨some 33, .fieldAddr 2 (.t 32), none, []⟩,
  ⟨some 34, .load false 1 (.t 33), none, []⟩]
def r114_9 : List VOper := [
  ⟨some 35, .move (.t 3), none, []⟩,
  ⟨some 36, .bin .add (.t 35) (.c (.d (.str ⟨#[42]⟩))), none, []⟩,
  ⟨some 3, .move (.t 36), none, []⟩]
def r114_4 : List VOper := [
  ⟨some 9, .move (.t 4), none, []⟩,
  ⟨some 10, .bin .add (.t 9) (.c (.d (.int .i64 1))), none, []⟩,
  ⟨some 4, .move (.t 10), none, []⟩]
def b114_0 : VCode := (.seq (.seq (.region false 0 [0, 3, 4, 8] r114_3) (.cond (.t 8) .skip (.exit 0))) (.seq (.block 1 (.seq (.seq (.region false 0 [0, 3, 4, 12] r114_5) (.cond (.t 12) (.region false 0 [0, 3, 4] r114_6) .skip)) (.seq (.region true 0 [0, 3, 4] r114_7) (.seq (.region false 0 [0, 3, 4, 34] r114_8) (.cond (.t 34) (.region false 0 [0, 3, 4] r114_9) .skip))))) (.region false 0 [0, 3, 4] r114_4)))
def r114_10 : List VOper := [
  ⟨some 37, .move (.t 3), none, []⟩,
  ⟨some 2, .move (.t 37), none, []⟩]
def v114 : VFn := ⟨1, [.tmp 2], (.seq (.region false 0 [0] r114_0) (.seq (.region false 0 [0, 3] r114_1) (.seq (.seq (.region false 0 [0, 3, 4] r114_2) (.block 0 (.loop [0, 3, 4] b114_0))) (.seq (.region false 0 [2] r114_10) .ret))))⟩
/-! loop.example/g00461/impl.SigText -/
def r115_0 : List VOper := [
  ⟨some 2, .move (.c (.d (.str ⟨#[]⟩))), none, []⟩]
def r115_1 : List VOper := [
  ⟨some 7, .buildSlice 1 (.str ⟨#[]⟩) 0 [], none, []⟩,
  ⟨some 3, .move (.t 7), none, []⟩]
def r115_2 : List VOper := [
  ⟨some 8, .move (.t 0), none, []⟩,
  ⟨some 9, .len false (.t 8), none, []⟩,
  ⟨some 10, .move (.c (.d (.int .i64 0))), none, []⟩]
def r115_3 : List VOper := [
  ⟨some 11, .bin .lss (.t 10) (.t 9), none, []⟩]
def r115_4 : List VOper := [
  ⟨some 12, .indexAddr 3 none (.t 8) (.t 10), none, []⟩,
  ⟨some 13, .load true 3 (.t 12), none, []⟩,
  ⟨some 5, .alloc 0 [.str ⟨#[]⟩, .int .i64 0, .bool false], none, []⟩,
  ⟨none, .store false 3 (.t 5) (.t 13), none, []⟩]
def r115_5 : List VOper := [
  ⟨some 14, .fieldAddr 0 (.t 5), none, []⟩,
  ⟨some 15, .load false 1 (.t 14), none, [0]⟩,
  ⟨some 16, .bin .add (.t 15) (.c (.d (.str ⟨#[47]⟩))), none, [1]⟩,
  ⟨some 17, .fieldAddr 1 (.t 5), none, []⟩,
  ⟨some 18, .load false 1 (.t 17), none, [3]⟩,
  ⟨some 19, .call true (.c (.fn 38 [])) [.t 18], none, [4]⟩,
  ⟨some 20, .bin .add (.t 16) (.t 19), none, [2, 5]⟩,
  ⟨some 6, .move (.t 20), none, [0, 1, 2, 3, 4, 5, 6]⟩]
def r115_6 : List VOper := [
  ⟨some 21, .fieldAddr 2 (.t 5), none, []⟩,
  ⟨some 22, .load false 1 (.t 21), none, []⟩]
def r115_7 : List VOper := [
  ⟨some 23, .move (.t 6), none, []⟩,
  ⟨some 24, .bin .add (.t 23) (.c (.d (.str ⟨#[42]⟩))), none, []⟩,
  ⟨some 6, .move (.t 24), none, []⟩]
def r115_8 : List VOper := [
  ⟨some 25, .move (.t 3), none, []⟩,
  ⟨some 26, .move (.t 6), none, []⟩,
  ⟨some 27, .buildSlice 1 (.str ⟨#[]⟩) 1 [(0, .t 26)], none, []⟩,
  ⟨some 28, .append 1 16 (.t 25) (.t 27), none, []⟩,
  ⟨some 3, .move (.t 28), none, []⟩]
def r115_9 : List VOper := [
  ⟨some 29, .bin .add (.t 10) (.c (.d (.int .i64 1))), none, []⟩,
  ⟨some 10, .move (.t 29), none, []⟩]
def b115_0 : VCode := (.seq (.region false 0 [3, 8, 9, 10, 11] r115_3) (.seq (.cond (.t 11) .skip (.exit 0)) (.seq (.block 1 (.seq (.region false 1 [3, 5, 8, 9, 10] r115_4) (.seq (.region true 0 [3, 5, 6, 8, 9, 10] r115_5) (.seq (.seq (.region false 0 [3, 6, 8, 9, 10, 22] r115_6) (.cond (.t 22) (.region false 0 [3, 6, 8, 9, 10] r115_7) .skip)) (.region false 0 [3, 8, 9, 10] r115_8))))) (.region false 0 [3, 8, 9, 10] r115_9))))
def r115_10 : List VOper := [
  ⟨some 30, .move (.t 3), none, []⟩,
  ⟨some 31, .call true (.c (.fn 93 [])) [.t 30, .c (.d (.str ⟨#[32]⟩))], none, []⟩,
  ⟨some 2, .move (.t 31), none, []⟩]
def v115 : VFn := ⟨1, [.tmp 2], (.seq (.region false 0 [0] r115_0) (.seq (.region false 0 [0, 3] r115_1) (.seq (.seq (.region false 0 [3, 8, 9, 10] r115_2) (.block 0 (.loop [3, 8, 9, 10] b115_0))) (.seq (.region false 0 [2] r115_10) .ret))))⟩
/-! loop.example/g00461/laws.FnExactWeight -/
def r116_0 : List VOper := [
  ⟨some 3, .box 0 (.t 1), none, []⟩,
  ⟨some 4, .move (.c (.d (.bool false))), none, []⟩]
def r116_1 : List VOper := [
  ⟨some 5, .move (.c (.d (.int .i64 1048576))), none, []⟩]
def r116_2 : List VOper := [
  ⟨some 10, .move (.t 0), none, []⟩,
  ⟨some 11, .move (.t 5), none, []⟩,
  ⟨some 12, .call true (.c (.fn 11 [])) [.t 10, .t 11], none, []⟩,
  ⟨some 5, .move (.t 12), none, []⟩]
def r116_3 : List VOper := [
  ⟨some 13, .move (.t 5), none, []⟩,
  ⟨some 14, .bin .lss (.t 13) (.c (.d (.int .i64 0))), none, []⟩]
def r116_4 : List VOper := [
  ⟨some 4, .move (.c (.d (.bool true))), none, []⟩]
def r116_5 : List VOper := [
  ⟨some 15, .load true 3 (.t 3), none, []⟩,
  ⟨some 16, .move (.t 5), none, []⟩,
  ⟨some 17, .call true (.c (.fn 1 [])) [.t 15, .t 16], none, []⟩,
  ⟨some 5, .move (.t 17), none, []⟩]
def r116_6 : List VOper := [
  ⟨some 18, .move (.t 5), none, []⟩,
  ⟨some 19, .bin .lss (.t 18) (.c (.d (.int .i64 0))), none, []⟩]
def r116_7 : List VOper := [
  ⟨some 4, .move (.c (.d (.bool true))), none, []⟩]
def r116_8 : List VOper := [
  ⟨some 20, .move (.t 0), none, []⟩,
  ⟨some 21, .call true (.c (.fn 12 [])) [.t 20], none, [0]⟩,
  ⟨some 22, .load true 3 (.t 3), none, []⟩,
  ⟨some 23, .call true (.c (.fn 2 [])) [.t 22], none, [1, 2]⟩,
  ⟨some 24, .call true (.c (.fn 117 [])) [.t 21, .t 23], none, [1, 3]⟩,
  ⟨some 6, .move (.t 24), none, [0, 1, 2, 3, 4]⟩]
def r116_9 : List VOper := [
  ⟨some 25, .move (.t 0), none, []⟩,
  ⟨some 26, .call true (.c (.fn 12 [])) [.t 25], none, []⟩,
  ⟨some 7, .move (.t 26), none, []⟩]
def r116_10 : List VOper := [
  ⟨some 27, .load true 3 (.t 3), none, []⟩,
  ⟨some 28, .call true (.c (.fn 2 [])) [.t 27], none, []⟩,
  ⟨some 8, .alloc 0 [.int .i64 0, .int .i64 0, .sl .nil []], none, []⟩,
  ⟨none, .store false 3 (.t 8) (.t 28), none, []⟩]
def r116_11 : List VOper := [
  ⟨some 29, .move (.t 7), none, []⟩,
  ⟨some 30, .load true 3 (.t 8), none, []⟩,
  ⟨some 31, .call true (.c (.fn 118 [])) [.t 29, .t 30], none, []⟩,
  ⟨some 9, .move (.t 31), none, []⟩]
def r116_12 : List VOper := [
  ⟨some 32, .move (.t 9), none, []⟩,
  ⟨some 33, .move (.t 6), none, []⟩,
  ⟨some 34, .bin .neq (.t 32) (.t 33), none, []⟩]
def r116_13 : List VOper := [
  ⟨some 4, .move (.c (.d (.bool false))), none, []⟩]
def r116_14 : List VOper := [
  ⟨some 35, .move (.t 7), none, []⟩,
  ⟨some 36, .move (.t 0), none, []⟩,
  ⟨some 37, .call true (.c (.fn 12 [])) [.t 36], none, []⟩,
  ⟨some 38, .call true (.c (.fn 15 [])) [.t 35, .t 37], none, []⟩,
  ⟨some 39, .not (.t 38), none, []⟩]
def r116_15 : List VOper := [
  ⟨some 4, .move (.c (.d (.bool false))), none, []⟩]
def r116_16 : List VOper := [
  ⟨some 40, .load true 3 (.t 8), none, []⟩,
  ⟨some 41, .load true 3 (.t 3), none, []⟩,
  ⟨some 42, .call true (.c (.fn 2 [])) [.t 41], none, [1]⟩,
  ⟨some 43, .call true (.c (.fn 5 [])) [.t 40, .t 42], none, [0, 2]⟩,
  ⟨some 44, .not (.t 43), none, [3]⟩]
def r116_17 : List VOper := [
  ⟨some 4, .move (.c (.d (.bool false))), none, []⟩]
def r116_18 : List VOper := [
  ⟨some 4, .move (.c (.d (.bool true))), none, []⟩]
def v116 : VFn := ⟨2, [.tmp 4], (.seq (.region false 1 [0, 3] r116_0) (.seq (.region false 0 [0, 3, 5] r116_1) (.seq (.region false 0 [0, 3, 5] r116_2) (.seq (.seq (.region false 0 [0, 3, 5, 14] r116_3) (.cond (.t 14) (.seq (.region false 0 [4] r116_4) .ret) .skip)) (.seq (.region false 0 [0, 3, 5] r116_5) (.seq (.seq (.region false 0 [0, 3, 19] r116_6) (.cond (.t 19) (.seq (.region false 0 [4] r116_7) .ret) .skip)) (.seq (.region true 0 [0, 3, 6] r116_8) (.seq (.region false 0 [0, 3, 6, 7] r116_9) (.seq (.region false 1 [0, 3, 6, 7, 8] r116_10) (.seq (.region false 0 [0, 3, 6, 7, 8, 9] r116_11) (.seq (.seq (.region false 0 [0, 3, 7, 8, 34] r116_12) (.cond (.t 34) (.seq (.region false 0 [4] r116_13) .ret) .skip)) (.seq (.seq (.region false 0 [3, 8, 39] r116_14) (.cond (.t 39) (.seq (.region false 0 [4] r116_15) .ret) .skip)) (.seq (.seq (.region true 0 [44] r116_16) (.cond (.t 44) (.seq (.region false 0 [4] r116_17) .ret) .skip)) (.seq (.region false 0 [4] r116_18) .ret))))))))))))))⟩
/-! loop.example/g00461/spec.Weight -/
def r117_0 : List VOper := [
  ⟨some 3, .box 0 (.t 1), none, []⟩,
  ⟨some 4, .move (.c (.d (.int .i64 0))), none, []⟩]
def r117_1 : List VOper := [
  ⟨some 5, .move (.c (.d (.int .i64 1))), none, []⟩]
def r117_2 : List VOper := [
  ⟨some 7, .move (.t 0), none, []⟩,
  ⟨some 8, .fieldAddr 0 (.t 3), none, []⟩,
  ⟨some 9, .load false 1 (.t 8), none, []⟩,
  ⟨some 10, .call true (.c (.fn 33 [])) [.t 7, .t 9], none, []⟩,
  ⟨some 11, .move (.t 10), none, []⟩,
  ⟨some 12, .fieldAddr 2 (.t 3), some (11, true), []⟩,
  ⟨some 13, .load false 1 (.t 12), some (11, true), []⟩,
  ⟨some 14, .len false (.t 13), some (11, true), []⟩,
  ⟨some 15, .bin .gtr (.t 14) (.c (.d (.int .i64 0))), some (11, true), []⟩,
  ⟨some 16, .pick (.t 11) (.t 15) (.c (.d (.bool false))), none, []⟩]
def r117_3 : List VOper := [
  ⟨some 17, .fieldAddr 2 (.t 3), none, []⟩,
  ⟨some 18, .load false 1 (.t 17), none, []⟩,
  ⟨some 19, .len false (.t 18), none, []⟩,
  ⟨some 20, .bin .sub (.t 19) (.c (.d (.int .i64 1))), none, []⟩,
  ⟨some 5, .move (.t 20), none, []⟩]
def r117_4 : List VOper := [
  ⟨some 6, .move (.c (.d (.int .i64 0))), none, []⟩]
def r117_5 : List VOper := [
  ⟨some 21, .move (.t 6), none, []⟩,
  ⟨some 22, .fieldAddr 2 (.t 3), none, []⟩,
  ⟨some 23, .load false 1 (.t 22), none, []⟩,
  ⟨some 24, .len false (.t 23), none, []⟩,
  ⟨some 25, .bin .lss (.t 21) (.t 24), none, []⟩]
def r117_7 : List VOper := [
  ⟨some 28, .move (.t 5), none, []⟩,
  ⟨some 29, .move (.t 0), none, []⟩,
  ⟨some 30, .fieldAddr 2 (.t 3), none, []⟩,
  ⟨some 31, .load false 1 (.t 30), none, []⟩,
  ⟨some 32, .move (.t 6), none, []⟩,
  ⟨some 33, .indexAddr 3 none (.t 31) (.t 32), none, []⟩,
  ⟨some 34, .load true 3 (.t 33), none, []⟩,
  ⟨some 35, .call true (.c (.fn 117 [])) [.t 29, .t 34], none, []⟩,
  ⟨some 36, .bin .add (.t 28) (.t 35), none, []⟩,
  ⟨some 5, .move (.t 36), none, []⟩]
def r117_6 : List VOper := [
  ⟨some 26, .move (.t 6), none, []⟩,
  ⟨some 27, .bin .add (.t 26) (.c (.d (.int .i64 1))), none, []⟩,
  ⟨some 6, .move (.t 27), none, []⟩]
def b117_0 : VCode := (.seq (.seq (.region false 0 [0, 3, 5, 6, 25] r117_5) (.cond (.t 25) .skip (.exit 0))) (.seq (.block 1 (.region false 0 [0, 3, 5, 6] r117_7)) (.region false 0 [0, 3, 5, 6] r117_6)))
def r117_8 : List VOper := [
  ⟨some 37, .move (.t 5), none, []⟩,
  ⟨some 4, .move (.t 37), none, []⟩]
def v117 : VFn := ⟨2, [.tmp 4], (.seq (.region false 1 [0, 3] r117_0) (.seq (.region false 0 [0, 3, 5] r117_1) (.seq (.seq (.region false 0 [0, 3, 5, 16] r117_2) (.cond (.t 16) (.region false 0 [0, 3, 5] r117_3) .skip)) (.seq (.seq (.region false 0 [0, 3, 5, 6] r117_4) (.block 0 (.loop [0, 3, 5, 6] b117_0))) (.seq (.region false 0 [4] r117_8) .ret)))))⟩
/-! loop.example/g00461/impl.Weight -/
def r118_0 : List VOper := [
  ⟨some 3, .box 0 (.t 1), none, []⟩,
  ⟨some 4, .move (.c (.d (.int .i64 0))), none, []⟩]
def r118_1 : List VOper := [
  ⟨some 5, .move (.c (.d (.int .i64 1))), none, []⟩]
def r118_2 : List VOper := [
  ⟨some 8, .move (.t 0), none, []⟩,
  ⟨some 9, .fieldAddr 0 (.t 3), none, []⟩,
  ⟨some 10, .load false 1 (.t 9), none, []⟩,
  ⟨some 11, .call true (.c (.fn 34 [])) [.t 8, .t 10], none, []⟩,
  ⟨some 12, .move (.t 11), none, []⟩,
  ⟨some 13, .fieldAddr 2 (.t 3), some (12, true), []⟩,
  ⟨some 14, .load false 1 (.t 13), some (12, true), []⟩,
  ⟨some 15, .len false (.t 14), some (12, true), []⟩,
  ⟨some 16, .bin .gtr (.t 15) (.c (.d (.int .i64 0))), some (12, true), []⟩,
  ⟨some 17, .pick (.t 12) (.t 16) (.c (.d (.bool false))), none, []⟩]
def r118_3 : List VOper := [
  ⟨some 18, .fieldAddr 2 (.t 3), none, []⟩,
  ⟨some 19, .load false 1 (.t 18), none, []⟩,
  ⟨some 20, .len false (.t 19), none, []⟩,
  ⟨some 21, .bin .sub (.t 20) (.c (.d (.int .i64 1))), none, []⟩,
  ⟨some 5, .move (.t 21), none, []⟩]
def r118_4 : List VOper := [
  ⟨some 22, .fieldAddr 2 (.t 3), none, []⟩,
  ⟨some 23, .load false 1 (.t 22), none, []⟩,
  ⟨some 24, .len false (.t 23), none, []⟩,
  ⟨some 25, .move (.c (.d (.int .i64 0))), none, []⟩]
def r118_5 : List VOper := [
  ⟨some 26, .bin .lss (.t 25) (.t 24), none, []⟩]
def r118_6 : List VOper := [
  ⟨some 27, .indexAddr 3 none (.t 23) (.t 25), none, []⟩,
  ⟨some 28, .load true 3 (.t 27), none, []⟩,
  ⟨some 7, .alloc 0 [.int .i64 0, .int .i64 0, .sl .nil []], none, []⟩,
  ⟨none, .store false 3 (.t 7) (.t 28), none, []⟩]
def r118_7 : List VOper := [
  ⟨some 29, .move (.t 5), none, []⟩,
  ⟨some 30, .move (.t 0), none, []⟩,
  ⟨some 31, .load true 3 (.t 7), none, []⟩,
  ⟨some 32, .call true (.c (.fn 118 [])) [.t 30, .t 31], none, []⟩,
  ⟨some 33, .bin .add (.t 29) (.t 32), none, []⟩,
  ⟨some 5, .move (.t 33), none, []⟩]
def r118_8 : List VOper := [
  ⟨some 34, .bin .add (.t 25) (.c (.d (.int .i64 1))), none, []⟩,
  ⟨some 25, .move (.t 34), none, []⟩]
def b118_0 : VCode := (.seq (.region false 0 [0, 5, 23, 24, 25, 26] r118_5) (.seq (.cond (.t 26) .skip (.exit 0)) (.seq (.block 1 (.seq (.region false 1 [0, 5, 7, 23, 24, 25] r118_6) (.region false 0 [0, 5, 23, 24, 25] r118_7))) (.region false 0 [0, 5, 23, 24, 25] r118_8))))
def r118_9 : List VOper := [
  ⟨some 35, .move (.t 5), none, []⟩,
  ⟨some 4, .move (.t 35), none, []⟩]
def v118 : VFn := ⟨2, [.tmp 4], (.seq (.region false 1 [0, 3] r118_0) (.seq (.region false 0 [0, 3, 5] r118_1) (.seq (.seq (.region false 0 [0, 3, 5, 17] r118_2) (.cond (.t 17) (.region false 0 [0, 3, 5] r118_3) .skip)) (.seq (.seq (.region false 0 [0, 5, 23, 24, 25] r118_4) (.block 0 (.loop [0, 5, 23, 24, 25] b118_0))) (.seq (.region false 0 [4] r118_9) .ret)))))⟩
/-! loop.example/g00461/laws.FnExactNumsText -/
def r119_0 : List VOper := [
  ⟨some 2, .move (.c (.d (.bool false))), none, []⟩]
def r119_1 : List VOper := [
  ⟨some 6, .move (.t 0), none, []⟩,
  ⟨some 7, .len false (.t 6), none, []⟩,
  ⟨some 8, .bin .gtr (.t 7) (.c (.d (.int .i64 1048576))), none, []⟩]
def r119_2 : List VOper := [
  ⟨some 2, .move (.c (.d (.bool true))), none, []⟩]
def r119_3 : List VOper := [
  ⟨some 9, .move (.t 0), none, []⟩,
  ⟨some 10, .call true (.c (.fn 41 [])) [.t 9], none, []⟩,
  ⟨some 11, .call true (.c (.fn 120 [])) [.t 10], none, []⟩,
  ⟨some 3, .move (.t 11), none, []⟩]
def r119_4 : List VOper := [
  ⟨some 12, .move (.t 0), none, []⟩,
  ⟨some 13, .call true (.c (.fn 41 [])) [.t 12], none, []⟩,
  ⟨some 4, .move (.t 13), none, []⟩]
def r119_5 : List VOper := [
  ⟨some 14, .move (.t 4), none, []⟩,
  ⟨some 15, .call true (.c (.fn 121 [])) [.t 14], none, []⟩,
  ⟨some 5, .move (.t 15), none, []⟩]
def r119_6 : List VOper := [
  ⟨some 16, .move (.t 5), none, []⟩,
  ⟨some 17, .move (.t 3), none, []⟩,
  ⟨some 18, .bin .neq (.t 16) (.t 17), none, []⟩]
def r119_7 : List VOper := [
  ⟨some 2, .move (.c (.d (.bool false))), none, []⟩]
def r119_8 : List VOper := [
  ⟨some 19, .move (.t 4), none, []⟩,
  ⟨some 20, .move (.t 0), none, []⟩,
  ⟨some 21, .call true (.c (.fn 41 [])) [.t 20], none, []⟩,
  ⟨some 22, .call true (.c (.fn 44 [])) [.t 19, .t 21], none, []⟩,
  ⟨some 23, .not (.t 22), none, []⟩]
def r119_9 : List VOper := [
  ⟨some 2, .move (.c (.d (.bool false))), none, []⟩]
def r119_10 : List VOper := [
  ⟨some 2, .move (.c (.d (.bool true))), none, []⟩]
def v119 : VFn := ⟨1, [.tmp 2], (.seq (.region false 0 [0] r119_0) (.seq (.seq (.region false 0 [0, 8] r119_1) (.cond (.t 8) (.seq (.region false 0 [2] r119_2) .ret) .skip)) (.seq (.region false 0 [0, 3] r119_3) (.seq (.region false 0 [0, 3, 4] r119_4) (.seq (.region false 0 [0, 3, 4, 5] r119_5) (.seq (.seq (.region false 0 [0, 4, 18] r119_6) (.cond (.t 18) (.seq (.region false 0 [2] r119_7) .ret) .skip)) (.seq (.seq (.region false 0 [23] r119_8) (.cond (.t 23) (.seq (.region false 0 [2] r119_9) .ret) .skip)) (.seq (.region false 0 [2] r119_10) .ret))))))))⟩
/-! loop.example/g00461/spec.NumsText -/
def r120_0 : List VOper := [
  ⟨some 2, .move (.c (.d (.str ⟨#[]⟩))), none, []⟩]
def r120_1 : List VOper := [
  ⟨some 3, .move (.c (.d (.str ⟨#[]⟩))), none, []⟩]
def r120_2 : List VOper := [
  ⟨some 4, .move (.c (.d (.int .i64 0))), none, []⟩]
def r120_3 : List VOper := [
  ⟨some 5, .move (.t 4), none, []⟩,
  ⟨some 6, .move (.t 0), none, []⟩,
  ⟨some 7, .len false (.t 6), none, []⟩,
  ⟨some 8, .bin .lss (.t 5) (.t 7), none, []⟩]
def r120_5 : List VOper := [
  ⟨some 11, .move (.t 4), none, []⟩,
  ⟨some 12, .bin .gtr (.t 11) (.c (.d (.int .i64 0))), none, []⟩]
def r120_6 : List VOper := [
  ⟨some 13, .move (.t 3), none, []⟩,
  ⟨some 14, .bin .add (.t 13) (.c (.d (.str ⟨#[44]⟩))), none, []⟩,
  ⟨some 3, .move (.t 14), none, []⟩]
def r120_7 : List VOper := [
  ⟨some 15, .move (.t 3), none, []⟩,
  ⟨some 16, .move (.t 0), none, []⟩,
  ⟨some 17, .move (.t 4), none, []⟩,
  ⟨some 18, .indexAddr 1 none (.t 16) (.t 17), none, []⟩,
  ⟨some 19, .load false 1 (.t 18), none, []⟩,
  ⟨some 20, .call true (.c (.fn 39 [])) [.t 19], none, []⟩,
  ⟨some 21, .bin .add (.t 15) (.t 20), none, []⟩,
  ⟨some 3, .move (.t 21), none, []⟩]
def r120_4 : List VOper := [
  ⟨some 9, .move (.t 4), none, []⟩,
  ⟨some 10, .bin .add (.t 9) (.c (.d (.int .i64 1))), none, []⟩,
  ⟨some 4, .move (.t 10), none, []⟩]
def b120_0 : VCode := (.seq (.seq (.region false 0 [0, 3, 4, 8] r120_3) (.cond (.t 8) .skip (.exit 0))) (.seq (.block 1 (.seq (.seq (.region false 0 [0, 3, 4, 12] r120_5) (.cond (.t 12) (.region false 0 [0, 3, 4] r120_6) .skip)) (.region false 0 [0, 3, 4] r120_7))) (.region false 0 [0, 3, 4] r120_4)))
def r120_8 : List VOper := [
  ⟨some 22, .move (.t 3), none, []⟩,
  ⟨some 2, .move (.t 22), none, []⟩]
def v120 : VFn := ⟨1, [.tmp 2], (.seq (.region false 0 [0] r120_0) (.seq (.region false 0 [0, 3] r120_1) (.seq (.seq (.region false 0 [0, 3, 4] r120_2) (.block 0 (.loop [0, 3, 4] b120_0))) (.seq (.region false 0 [2] r120_8) .ret))))⟩
/-! loop.example/g00461/impl.NumsText -/
def r121_0 : List VOper := [
  ⟨some 2, .move (.c (.d (.str ⟨#[]⟩))), none, []⟩]
def r121_1 : List VOper := [
  ⟨some 6, .buildSlice 1 (.str ⟨#[]⟩) 0 [], none, []⟩,
  ⟨some 3, .move (.t 6), none, []⟩]
def r121_2 : List VOper := [
  ⟨some 7, .move (.t 0), none, []⟩,
  ⟨some 8, .len false (.t 7), none, []⟩,
  ⟨some 9, .move (.c (.d (.int .i64 0))), none, []⟩]
def r121_3 : List VOper := [
  ⟨some 10, .bin .lss (.t 9) (.t 8), none, []⟩]
def r121_4 : List VOper := [
  ⟨some 11, .indexAddr 1 none (.t 7) (.t 9), none, []⟩,
  ⟨some 12, .load false 1 (.t 11), none, []⟩,
  ⟨some 5, .move (.t 12), none, []⟩]
def r121_5 : List VOper := [
  ⟨some 13, .move (.t 3), none, []⟩,
  ⟨some 14, .move (.t 5), none, []⟩,
  ⟨some 15, .call true (.c (.fn 38 [])) [.t 14], none, []⟩,
  ⟨some 16, .buildSlice 1 (.str ⟨#[]⟩) 1 [(0, .t 15)], none, []⟩,
  ⟨some 17, .append 1 16 (.t 13) (.t 16), none, []⟩,
  ⟨some 3, .move (.t 17), none, []⟩]
def r121_6 : List VOper := [
  ⟨some 18, .bin .add (.t 9) (.c (.d (.int .i64 1))), none, []⟩,
  ⟨some 9, .move (.t 18), none, []⟩]
def b121_0 : VCode := (.seq (.region false 0 [3, 7, 8, 9, 10] r121_3) (.seq (.cond (.t 10) .skip (.exit 0)) (.seq (.block 1 (.seq (.region false 0 [3, 5, 7, 8, 9] r121_4) (.region false 0 [3, 7, 8, 9] r121_5))) (.region false 0 [3, 7, 8, 9] r121_6))))
def r121_7 : List VOper := [
  ⟨some 19, .move (.t 3), none, []⟩,
  ⟨some 20, .call true (.c (.fn 93 [])) [.t 19, .c (.d (.str ⟨#[44]⟩))], none, []⟩,
  ⟨some 2, .move (.t 20), none, []⟩]
def v121 : VFn := ⟨1, [.tmp 2], (.seq (.region false 0 [0] r121_0) (.seq (.region false 0 [0, 3] r121_1) (.seq (.seq (.region false 0 [3, 7, 8, 9] r121_2) (.block 0 (.loop [3, 7, 8, 9] b121_0))) (.seq (.region false 0 [2] r121_7) .ret))))⟩
/-! loop.example/g00461/laws.FnExactLitSame -/
def r122_0 : List VOper := [
  ⟨some 2, .box 0 (.t 0), none, []⟩,
  ⟨some 3, .box 1 (.t 1), none, []⟩,
  ⟨some 4, .move (.c (.d (.bool false))), none, []⟩]
def r122_1 : List VOper := [
  ⟨some 5, .move (.c (.d (.int .i64 1048576))), none, []⟩]
def r122_2 : List VOper := [
  ⟨some 10, .load true 7 (.t 2), none, []⟩,
  ⟨some 11, .move (.t 5), none, []⟩,
  ⟨some 12, .call true (.c (.fn 123 [])) [.t 10, .t 11], none, []⟩,
  ⟨some 5, .move (.t 12), none, []⟩]
def r122_3 : List VOper := [
  ⟨some 13, .move (.t 5), none, []⟩,
  ⟨some 14, .bin .lss (.t 13) (.c (.d (.int .i64 0))), none, []⟩]
def r122_4 : List VOper := [
  ⟨some 4, .move (.c (.d (.bool true))), none, []⟩]
def r122_5 : List VOper := [
  ⟨some 15, .load true 7 (.t 3), none, []⟩,
  ⟨some 16, .move (.t 5), none, []⟩,
  ⟨some 17, .call true (.c (.fn 123 [])) [.t 15, .t 16], none, []⟩,
  ⟨some 5, .move (.t 17), none, []⟩]
def r122_6 : List VOper := [
  ⟨some 18, .move (.t 5), none, []⟩,
  ⟨some 19, .bin .lss (.t 18) (.c (.d (.int .i64 0))), none, []⟩]
def r122_7 : List VOper := [
  ⟨some 4, .move (.c (.d (.bool true))), none, []⟩]
def r122_8 : List VOper := [
  ⟨some 20, .load true 7 (.t 2), none, []⟩,
  ⟨some 21, .call true (.c (.fn 124 [])) [.t 20], none, [0]⟩,
  ⟨some 22, .load true 7 (.t 3), none, []⟩,
  ⟨some 23, .call true (.c (.fn 124 [])) [.t 22], none, [1, 2]⟩,
  ⟨some 24, .call true (.c (.fn 125 [])) [.t 21, .t 23], none, [1, 3]⟩,
  ⟨some 6, .move (.t 24), none, [0, 1, 2, 3, 4]⟩]
def r122_9 : List VOper := [
  ⟨some 25, .load true 7 (.t 2), none, []⟩,
  ⟨some 26, .call true (.c (.fn 124 [])) [.t 25], none, []⟩,
  ⟨some 7, .alloc 0 [.bool false, .int .i64 0, .int .i64 0, .sl .nil [], .int .i64 0, .int .i64 0, .sl .nil []], none, []⟩,
  ⟨none, .store false 7 (.t 7) (.t 26), none, []⟩]
def r122_10 : List VOper := [
  ⟨some 27, .load true 7 (.t 3), none, []⟩,
  ⟨some 28, .call true (.c (.fn 124 [])) [.t 27], none, []⟩,
  ⟨some 8, .alloc 0 [.bool false, .int .i64 0, .int .i64 0, .sl .nil [], .int .i64 0, .int .i64 0, .sl .nil []], none, []⟩,
  ⟨none, .store false 7 (.t 8) (.t 28), none, []⟩]
def r122_11 : List VOper := [
  ⟨some 29, .load true 7 (.t 7), none, []⟩,
  ⟨some 30, .load true 7 (.t 8), none, []⟩,
  ⟨some 31, .call true (.c (.fn 126 [])) [.t 29, .t 30], none, []⟩,
  ⟨some 9, .move (.t 31), none, []⟩]
def r122_12 : List VOper := [
  ⟨some 32, .move (.t 9), none, []⟩,
  ⟨some 33, .move (.t 6), none, []⟩,
  ⟨some 34, .eqB true (.t 32) (.t 33), none, []⟩]
def r122_13 : List VOper := [
  ⟨some 4, .move (.c (.d (.bool false))), none, []⟩]
def r122_14 : List VOper := [
  ⟨some 35, .load true 7 (.t 7), none, []⟩,
  ⟨some 36, .load true 7 (.t 2), none, []⟩,
  ⟨some 37, .call true (.c (.fn 124 [])) [.t 36], none, [1]⟩,
  ⟨some 38, .call true (.c (.fn 127 [])) [.t 35, .t 37], none, [0, 2]⟩,
  ⟨some 39, .not (.t 38), none, [3]⟩]
def r122_15 : List VOper := [
  ⟨some 4, .move (.c (.d (.bool false))), none, []⟩]
def r122_16 : List VOper := [
  ⟨some 40, .load true 7 (.t 8), none, []⟩,
  ⟨some 41, .load true 7 (.t 3), none, []⟩,
  ⟨some 42, .call true (.c (.fn 124 [])) [.t 41], none, [1]⟩,
  ⟨some 43, .call true (.c (.fn 127 [])) [.t 40, .t 42], none, [0, 2]⟩,
  ⟨some 44, .not (.t 43), none, [3]⟩]
def r122_17 : List VOper := [
  ⟨some 4, .move (.c (.d (.bool false))), none, []⟩]
def r122_18 : List VOper := [
  ⟨some 4, .move (.c (.d (.bool true))), none, []⟩]
def v122 : VFn := ⟨2, [.tmp 4], (.seq (.region false 2 [2, 3] r122_0) (.seq (.region false 0 [2, 3, 5] r122_1) (.seq (.region false 0 [2, 3, 5] r122_2) (.seq (.seq (.region false 0 [2, 3, 5, 14] r122_3) (.cond (.t 14) (.seq (.region false 0 [4] r122_4) .ret) .skip)) (.seq (.region false 0 [2, 3, 5] r122_5) (.seq (.seq (.region false 0 [2, 3, 19] r122_6) (.cond (.t 19) (.seq (.region false 0 [4] r122_7) .ret) .skip)) (.seq (.region true 0 [2, 3, 6] r122_8) (.seq (.region false 1 [2, 3, 6, 7] r122_9) (.seq (.region false 1 [2, 3, 6, 7, 8] r122_10) (.seq (.region false 0 [2, 3, 6, 7, 8, 9] r122_11) (.seq (.seq (.region false 0 [2, 3, 7, 8, 34] r122_12) (.cond (.t 34) (.seq (.region false 0 [4] r122_13) .ret) .skip)) (.seq (.seq (.region true 0 [3, 8, 39] r122_14) (.cond (.t 39) (.seq (.region false 0 [4] r122_15) .ret) .skip)) (.seq (.seq (.region true 0 [44] r122_16) (.cond (.t 44) (.seq (.region false 0 [4] r122_17) .ret) .skip)) (.seq (.region false 0 [4] r122_18) .ret))))))))))))))⟩
/-! loop.example/g00461/laws.szLit -/
def r123_0 : List VOper := [
  ⟨some 2, .box 0 (.t 0), none, []⟩,
  ⟨some 4, .move (.c (.d (.int .i64 0))), none, []⟩]
def r123_1 : List VOper := [
  ⟨some 5, .fieldAddr 1 (.t 2), none, []⟩,
  ⟨some 6, .load true 3 (.t 5), none, []⟩,
  ⟨some 7, .move (.t 1), none, []⟩,
  ⟨some 8, .call true (.c (.fn 1 [])) [.t 6, .t 7], none, []⟩,
  ⟨some 1, .move (.t 8), none, []⟩]
def r123_2 : List VOper := [
  ⟨some 9, .move (.t 1), none, []⟩,
  ⟨some 10, .bin .lss (.t 9) (.c (.d (.int .i64 0))), none, []⟩]
def r123_3 : List VOper := [
  ⟨some 4, .move (.c (.d (.int .i64 (-1)))), none, []⟩]
def r123_4 : List VOper := [
  ⟨some 11, .fieldAddr 4 (.t 2), none, []⟩,
  ⟨some 12, .load true 3 (.t 11), none, []⟩,
  ⟨some 13, .move (.t 1), none, []⟩,
  ⟨some 14, .call true (.c (.fn 1 [])) [.t 12, .t 13], none, []⟩,
  ⟨some 1, .move (.t 14), none, []⟩]
def r123_5 : List VOper := [
  ⟨some 15, .move (.t 1), none, []⟩,
  ⟨some 16, .bin .lss (.t 15) (.c (.d (.int .i64 0))), none, []⟩]
def r123_6 : List VOper := [
  ⟨some 4, .move (.c (.d (.int .i64 (-1)))), none, []⟩]
def r123_7 : List VOper := [
  ⟨some 17, .move (.t 1), none, []⟩,
  ⟨some 4, .move (.t 17), none, []⟩]
def v123 : VFn := ⟨2, [.tmp 4], (.seq (.region false 1 [1, 2] r123_0) (.seq (.region false 0 [1, 2] r123_1) (.seq (.seq (.region false 0 [1, 2, 10] r123_2) (.cond (.t 10) (.seq (.region false 0 [4] r123_3) .ret) .skip)) (.seq (.region false 0 [1] r123_4) (.seq (.seq (.region false 0 [1, 16] r123_5) (.cond (.t 16) (.seq (.region false 0 [4] r123_6) .ret) .skip)) (.seq (.region false 0 [4] r123_7) .ret))))))⟩
/-! loop.example/g00461/laws.toLit -/
def r124_0 : List VOper := [
  ⟨some 1, .box 0 (.t 0), none, []⟩,
  ⟨some 2, .alloc 1 [.bool false, .int .i64 0, .int .i64 0, .sl .nil [], .int .i64 0, .int .i64 0, .sl .nil []], none, []⟩]
def r124_1 : List VOper := [
  ⟨some 3, .alloc 0 [.bool false, .int .i64 0, .int .i64 0, .sl .nil [], .int .i64 0, .int .i64 0, .sl .nil []], none, []⟩]
def r124_2 : List VOper := [
  ⟨some 4, .fieldAddr 0 (.t 1), none, []⟩,
  ⟨some 5, .load false 1 (.t 4), none, []⟩,
  ⟨some 6, .fieldAddr 0 (.t 3), none, []⟩,
  ⟨none, .store false 1 (.t 6) (.t 5), none, []⟩]
def r124_3 : List VOper := [
  ⟨some 7, .fieldAddr 1 (.t 1), none, []⟩,
  ⟨some 8, .load true 3 (.t 7), none, []⟩,
  ⟨some 9, .call true (.c (.fn 2 [])) [.t 8], none, []⟩,
  ⟨some 10, .fieldAddr 1 (.t 3), none, []⟩,
  ⟨none, .store false 3 (.t 10) (.t 9), none, []⟩]
def r124_4 : List VOper := [
  ⟨some 11, .fieldAddr 4 (.t 1), none, []⟩,
  ⟨some 12, .load true 3 (.t 11), none, []⟩,
  ⟨some 13, .call true (.c (.fn 2 [])) [.t 12], none, []⟩,
  ⟨some 14, .fieldAddr 4 (.t 3), none, []⟩,
  ⟨none, .store false 3 (.t 14) (.t 13), none, []⟩]
def r124_5 : List VOper := [
  ⟨some 15, .load true 7 (.t 3), none, []⟩,
  ⟨none, .store false 7 (.t 2) (.t 15), none, []⟩]
def v124 : VFn := ⟨1, [.cell 2 true 7], (.seq (.region false 2 [1, 2] r124_0) (.seq (.region false 1 [1, 2, 3] r124_1) (.seq (.region false 0 [1, 2, 3] r124_2) (.seq (.region false 0 [1, 2, 3] r124_3) (.seq (.region false 0 [2, 3] r124_4) (.seq (.region false 0 [2] r124_5) .ret))))))⟩
/-! loop.example/g00461/spec.LitSame -/
def r125_0 : List VOper := [
  ⟨some 2, .box 0 (.t 0), none, []⟩,
  ⟨some 3, .box 1 (.t 1), none, []⟩,
  ⟨some 4, .move (.c (.d (.bool false))), none, []⟩]
def r125_1 : List VOper := [
  ⟨some 5, .fieldAddr 0 (.t 2), none, []⟩,
  ⟨some 6, .load false 1 (.t 5), none, []⟩,
  ⟨some 7, .fieldAddr 0 (.t 3), none, []⟩,
  ⟨some 8, .load false 1 (.t 7), none, []⟩,
  ⟨some 9, .eqB false (.t 6) (.t 8), none, []⟩,
  ⟨some 10, .move (.t 9), none, []⟩,
  ⟨some 11, .fieldAddr 1 (.t 2), some (10, true), []⟩,
  ⟨some 12, .load true 3 (.t 11), some (10, true), []⟩,
  ⟨some 13, .fieldAddr 1 (.t 3), some (10, true), []⟩,
  ⟨some 14, .load true 3 (.t 13), some (10, true), []⟩,
  ⟨some 15, .call true (.c (.fn 3 [])) [.t 12, .t 14], some (10, true), []⟩,
  ⟨some 16, .pick (.t 10) (.t 15) (.c (.d (.bool false))), none, []⟩,
  ⟨some 17, .move (.t 16), none, []⟩,
  ⟨some 18, .fieldAddr 4 (.t 2), some (17, true), []⟩,
  ⟨some 19, .load true 3 (.t 18), some (17, true), []⟩,
  ⟨some 20, .fieldAddr 4 (.t 3), some (17, true), []⟩,
  ⟨some 21, .load true 3 (.t 20), some (17, true), []⟩,
  ⟨some 22, .call true (.c (.fn 3 [])) [.t 19, .t 21], some (17, true), []⟩,
  ⟨some 23, .pick (.t 17) (.t 22) (.c (.d (.bool false))), none, []⟩,
  ⟨some 4, .move (.t 23), none, []⟩]
def v125 : VFn := ⟨2, [.tmp 4], (.seq (.region false 2 [2, 3] r125_0) (.seq (.region false 0 [4] r125_1) .ret))⟩
/-! loop.example/g00461/impl.LitSame -/
def r126_0 : List VOper := [
  ⟨some 2, .box 0 (.t 0), none, []⟩,
  ⟨some 3, .box 1 (.t 1), none, []⟩,
  ⟨some 4, .move (.c (.d (.bool false))), none, []⟩]
def r126_1 : List VOper := [
  ⟨some 5, .load true 7 (.t 2), none, []⟩,
  ⟨some 6, .load true 7 (.t 3), none, []⟩,
  ⟨some 7, .call true (.c (.fn 128 [])) [.t 5, .t 6], none, []⟩,
  ⟨some 8, .bin .eql (.t 7) (.c (.d (.int .i64 0))), none, []⟩,
  ⟨some 4, .move (.t 8), none, []⟩]
def v126 : VFn := ⟨2, [.tmp 4], (.seq (.region false 2 [2, 3] r126_0) (.seq (.region false 0 [4] r126_1) .ret))⟩
/-! loop.example/g00461/laws.eqLit -/
def r127_0 : List VOper := [
  ⟨some 2, .box 0 (.t 0), none, []⟩,
  ⟨some 3, .box 1 (.t 1), none, []⟩,
  ⟨some 4, .move (.c (.d (.bool false))), none, []⟩]
def r127_1 : List VOper := [
  ⟨some 5, .fieldAddr 0 (.t 2), none, []⟩,
  ⟨some 6, .load false 1 (.t 5), none, []⟩,
  ⟨some 7, .fieldAddr 0 (.t 3), none, []⟩,
  ⟨some 8, .load false 1 (.t 7), none, []⟩,
  ⟨some 9, .eqB true (.t 6) (.t 8), none, []⟩]
def r127_2 : List VOper := [
  ⟨some 4, .move (.c (.d (.bool false))), none, []⟩]
def r127_3 : List VOper := [
  ⟨some 10, .fieldAddr 1 (.t 2), none, []⟩,
  ⟨some 11, .load true 3 (.t 10), none, []⟩,
  ⟨some 12, .fieldAddr 1 (.t 3), none, []⟩,
  ⟨some 13, .load true 3 (.t 12), none, []⟩,
  ⟨some 14, .call true (.c (.fn 5 [])) [.t 11, .t 13], none, []⟩,
  ⟨some 15, .not (.t 14), none, []⟩]
def r127_4 : List VOper := [
  ⟨some 4, .move (.c (.d (.bool false))), none, []⟩]
def r127_5 : List VOper := [
  ⟨some 16, .fieldAddr 4 (.t 2), none, []⟩,
  ⟨some 17, .load true 3 (.t 16), none, []⟩,
  ⟨some 18, .fieldAddr 4 (.t 3), none, []⟩,
  ⟨some 19, .load true 3 (.t 18), none, []⟩,
  ⟨some 20, .call true (.c (.fn 5 [])) [.t 17, .t 19], none, []⟩,
  ⟨some 21, .not (.t 20), none, []⟩]
def r127_6 : List VOper := [
  ⟨some 4, .move (.c (.d (.bool false))), none, []⟩]
def r127_7 : List VOper := [
  ⟨some 4, .move (.c (.d (.bool true))), none, []⟩]
def v127 : VFn := ⟨2, [.tmp 4], (.seq (.region false 2 [2, 3] r127_0) (.seq (.seq (.region false 0 [2, 3, 9] r127_1) (.cond (.t 9) (.seq (.region false 0 [4] r127_2) .ret) .skip)) (.seq (.seq (.region false 0 [2, 3, 15] r127_3) (.cond (.t 15) (.seq (.region false 0 [4] r127_4) .ret) .skip)) (.seq (.seq (.region false 0 [21] r127_5) (.cond (.t 21) (.seq (.region false 0 [4] r127_6) .ret) .skip)) (.seq (.region false 0 [4] r127_7) .ret)))))⟩
/-! loop.example/g00461/impl.compareLits -/
def r128_0 : List VOper := [
  ⟨some 2, .box 0 (.t 0), none, []⟩,
  ⟨some 3, .box 1 (.t 1), none, []⟩,
  ⟨some 4, .move (.c (.d (.int .i64 0))), none, []⟩]
def r128_1 : List VOper := [
  ⟨some 7, .fieldAddr 0 (.t 2), none, []⟩,
  ⟨some 8, .load false 1 (.t 7), none, []⟩,
  ⟨some 9, .not (.t 8), none, []⟩,
  ⟨some 10, .move (.t 9), none, []⟩,
  ⟨some 11, .fieldAddr 0 (.t 3), some (10, true), []⟩,
  ⟨some 12, .load false 1 (.t 11), some (10, true), []⟩,
  ⟨some 13, .pick (.t 10) (.t 12) (.c (.d (.bool false))), none, []⟩,
  ⟨some 6, .move (.t 13), none, []⟩]
def r128_2 : List VOper := [
  ⟨some 4, .move (.c (.d (.int .i64 (-1)))), none, []⟩]
def r128_3 : List VOper := [
  ⟨some 15, .fieldAddr 0 (.t 2), none, []⟩,
  ⟨some 16, .load false 1 (.t 15), none, []⟩,
  ⟨some 17, .move (.t 16), none, []⟩,
  ⟨some 18, .fieldAddr 0 (.t 3), some (17, true), []⟩,
  ⟨some 19, .load false 1 (.t 18), some (17, true), []⟩,
  ⟨some 20, .not (.t 19), some (17, true), []⟩,
  ⟨some 21, .pick (.t 17) (.t 20) (.c (.d (.bool false))), none, []⟩,
  ⟨some 14, .move (.t 21), none, []⟩]
def r128_4 : List VOper := [
  ⟨some 4, .move (.c (.d (.int .i64 1))), none, []⟩]
def r128_5 : List VOper := [
  ⟨some 22, .fieldAddr 1 (.t 2), none, []⟩,
  ⟨some 23, .load true 3 (.t 22), none, []⟩,
  ⟨some 24, .fieldAddr 1 (.t 3), none, []⟩,
  ⟨some 25, .load true 3 (.t 24), none, []⟩,
  ⟨some 26, .call true (.c (.fn 6 [])) [.t 23, .t 25], none, []⟩,
  ⟨some 5, .move (.t 26), none, []⟩]
def r128_6 : List VOper := [
  ⟨some 27, .move (.t 5), none, []⟩,
  ⟨some 28, .bin .neq (.t 27) (.c (.d (.int .i64 0))), none, []⟩]
def r128_7 : List VOper := [
  ⟨some 29, .move (.t 5), none, []⟩,
  ⟨some 4, .move (.t 29), none, []⟩]
def r128_8 : List VOper := [
  ⟨some 30, .fieldAddr 4 (.t 2), none, []⟩,
  ⟨some 31, .load true 3 (.t 30), none, []⟩,
  ⟨some 32, .fieldAddr 4 (.t 3), none, []⟩,
  ⟨some 33, .load true 3 (.t 32), none, []⟩,
  ⟨some 34, .call true (.c (.fn 6 [])) [.t 31, .t 33], none, []⟩,
  ⟨some 4, .move (.t 34), none, []⟩]
def v128 : VFn := ⟨2, [.tmp 4], (.seq (.region false 2 [2, 3] r128_0) (.seq (.block 0 (.seq (.region false 0 [2, 3, 6] r128_1) (.cond (.t 6) (.seq (.region false 0 [4] r128_2) .ret) (.seq (.region false 0 [2, 3, 14] r128_3) (.cond (.t 14) (.seq (.region false 0 [4] r128_4) .ret) .skip))))) (.seq (.seq (.region false 0 [2, 3, 5] r128_5) (.seq (.region false 0 [2, 3, 5, 28] r128_6) (.cond (.t 28) (.seq (.region false 0 [4] r128_7) .ret) .skip))) (.seq (.region false 0 [4] r128_8) .ret))))⟩
/-! loop.example/g00461/laws.FnExactSigOk -/
def r129_0 : List VOper := [
  ⟨some 2, .move (.c (.d (.bool false))), none, []⟩]
def r129_1 : List VOper := [
  ⟨some 3, .move (.c (.d (.int .i64 1048576))), none, []⟩]
def r129_2 : List VOper := [
  ⟨some 7, .move (.t 0), none, []⟩,
  ⟨some 8, .move (.t 3), none, []⟩,
  ⟨some 9, .call true (.c (.fn 11 [])) [.t 7, .t 8], none, []⟩,
  ⟨some 3, .move (.t 9), none, []⟩]
def r129_3 : List VOper := [
  ⟨some 10, .move (.t 3), none, []⟩,
  ⟨some 11, .bin .lss (.t 10) (.c (.d (.int .i64 0))), none, []⟩]
def r129_4 : List VOper := [
  ⟨some 2, .move (.c (.d (.bool true))), none, []⟩]
def r129_5 : List VOper := [
  ⟨some 12, .move (.t 0), none, []⟩,
  ⟨some 13, .call true (.c (.fn 12 [])) [.t 12], none, []⟩,
  ⟨some 14, .call true (.c (.fn 82 [])) [.t 13], none, []⟩,
  ⟨some 4, .move (.t 14), none, []⟩]
def r129_6 : List VOper := [
  ⟨some 15, .move (.t 0), none, []⟩,
  ⟨some 16, .call true (.c (.fn 12 [])) [.t 15], none, []⟩,
  ⟨some 5, .move (.t 16), none, []⟩]
def r129_7 : List VOper := [
  ⟨some 17, .move (.t 5), none, []⟩,
  ⟨some 18, .call true (.c (.fn 77 [])) [.t 17], none, []⟩,
  ⟨some 6, .move (.t 18), none, []⟩]
def r129_8 : List VOper := [
  ⟨some 19, .move (.t 6), none, []⟩,
  ⟨some 20, .move (.t 4), none, []⟩,
  ⟨some 21, .eqB true (.t 19) (.t 20), none, []⟩]
def r129_9 : List VOper := [
  ⟨some 2, .move (.c (.d (.bool false))), none, []⟩]
def r129_10 : List VOper := [
  ⟨some 22, .move (.t 5), none, []⟩,
  ⟨some 23, .move (.t 0), none, []⟩,
  ⟨some 24, .call true (.c (.fn 12 [])) [.t 23], none, []⟩,
  ⟨some 25, .call true (.c (.fn 15 [])) [.t 22, .t 24], none, []⟩,
  ⟨some 26, .not (.t 25), none, []⟩]
def r129_11 : List VOper := [
  ⟨some 2, .move (.c (.d (.bool false))), none, []⟩]
def r129_12 : List VOper := [
  ⟨some 2, .move (.c (.d (.bool true))), none, []⟩]
def v129 : VFn := ⟨1, [.tmp 2], (.seq (.region false 0 [0] r129_0) (.seq (.region false 0 [0, 3] r129_1) (.seq (.region false 0 [0, 3] r129_2) (.seq (.seq (.region false 0 [0, 11] r129_3) (.cond (.t 11) (.seq (.region false 0 [2] r129_4) .ret) .skip)) (.seq (.region false 0 [0, 4] r129_5) (.seq (.region false 0 [0, 4, 5] r129_6) (.seq (.region false 0 [0, 4, 5, 6] r129_7) (.seq (.seq (.region false 0 [0, 5, 21] r129_8) (.cond (.t 21) (.seq (.region false 0 [2] r129_9) .ret) .skip)) (.seq (.seq (.region false 0 [26] r129_10) (.cond (.t 26) (.seq (.region false 0 [2] r129_11) .ret) .skip)) (.seq (.region false 0 [2] r129_12) .ret))))))))))⟩
/-! loop.example/g00461/laws.FnExactBefore -/
def r130_0 : List VOper := [
  ⟨some 2, .box 0 (.t 0), none, []⟩,
  ⟨some 3, .box 1 (.t 1), none, []⟩,
  ⟨some 4, .move (.c (.d (.bool false))), none, []⟩]
def r130_1 : List VOper := [
  ⟨some 5, .move (.c (.d (.int .i64 1048576))), none, []⟩]
def r130_2 : List VOper := [
  ⟨some 10, .load true 3 (.t 2), none, []⟩,
  ⟨some 11, .move (.t 5), none, []⟩,
  ⟨some 12, .call true (.c (.fn 1 [])) [.t 10, .t 11], none, []⟩,
  ⟨some 5, .move (.t 12), none, []⟩]
def r130_3 : List VOper := [
  ⟨some 13, .move (.t 5), none, []⟩,
  ⟨some 14, .bin .lss (.t 13) (.c (.d (.int .i64 0))), none, []⟩]
def r130_4 : List VOper := [
  ⟨some 4, .move (.c (.d (.bool true))), none, []⟩]
def r130_5 : List VOper := [
  ⟨some 15, .load true 3 (.t 3), none, []⟩,
  ⟨some 16, .move (.t 5), none, []⟩,
  ⟨some 17, .call true (.c (.fn 1 [])) [.t 15, .t 16], none, []⟩,
  ⟨some 5, .move (.t 17), none, []⟩]
def r130_6 : List VOper := [
  ⟨some 18, .move (.t 5), none, []⟩,
  ⟨some 19, .bin .lss (.t 18) (.c (.d (.int .i64 0))), none, []⟩]
def r130_7 : List VOper := [
  ⟨some 4, .move (.c (.d (.bool true))), none, []⟩]
def r130_8 : List VOper := [
  ⟨some 20, .load true 3 (.t 2), none, []⟩,
  ⟨some 21, .call true (.c (.fn 2 [])) [.t 20], none, [0]⟩,
  ⟨some 22, .load true 3 (.t 3), none, []⟩,
  ⟨some 23, .call true (.c (.fn 2 [])) [.t 22], none, [1, 2]⟩,
  ⟨some 24, .call true (.c (.fn 84 [])) [.t 21, .t 23], none, [1, 3]⟩,
  ⟨some 6, .move (.t 24), none, [0, 1, 2, 3, 4]⟩]
def r130_9 : List VOper := [
  ⟨some 25, .load true 3 (.t 2), none, []⟩,
  ⟨some 26, .call true (.c (.fn 2 [])) [.t 25], none, []⟩,
  ⟨some 7, .alloc 0 [.int .i64 0, .int .i64 0, .sl .nil []], none, []⟩,
  ⟨none, .store false 3 (.t 7) (.t 26), none, []⟩]
def r130_10 : List VOper := [
  ⟨some 27, .load true 3 (.t 3), none, []⟩,
  ⟨some 28, .call true (.c (.fn 2 [])) [.t 27], none, []⟩,
  ⟨some 8, .alloc 0 [.int .i64 0, .int .i64 0, .sl .nil []], none, []⟩,
  ⟨none, .store false 3 (.t 8) (.t 28), none, []⟩]
def r130_11 : List VOper := [
  ⟨some 29, .load true 3 (.t 7), none, []⟩,
  ⟨some 30, .load true 3 (.t 8), none, []⟩,
  ⟨some 31, .call true (.c (.fn 79 [])) [.t 29, .t 30], none, []⟩,
  ⟨some 9, .move (.t 31), none, []⟩]
def r130_12 : List VOper := [
  ⟨some 32, .move (.t 9), none, []⟩,
  ⟨some 33, .move (.t 6), none, []⟩,
  ⟨some 34, .eqB true (.t 32) (.t 33), none, []⟩]
def r130_13 : List VOper := [
  ⟨some 4, .move (.c (.d (.bool false))), none, []⟩]
def r130_14 : List VOper := [
  ⟨some 35, .load true 3 (.t 7), none, []⟩,
  ⟨some 36, .load true 3 (.t 2), none, []⟩,
  ⟨some 37, .call true (.c (.fn 2 [])) [.t 36], none, [1]⟩,
  ⟨some 38, .call true (.c (.fn 5 [])) [.t 35, .t 37], none, [0, 2]⟩,
  ⟨some 39, .not (.t 38), none, [3]⟩]
def r130_15 : List VOper := [
  ⟨some 4, .move (.c (.d (.bool false))), none, []⟩]
def r130_16 : List VOper := [
  ⟨some 40, .load true 3 (.t 8), none, []⟩,
  ⟨some 41, .load true 3 (.t 3), none, []⟩,
  ⟨some 42, .call true (.c (.fn 2 [])) [.t 41], none, [1]⟩,
  ⟨some 43, .call true (.c (.fn 5 [])) [.t 40, .t 42], none, [0, 2]⟩,
  ⟨some 44, .not (.t 43), none, [3]⟩]
def r130_17 : List VOper := [
  ⟨some 4, .move (.c (.d (.bool false))), none, []⟩]
def r130_18 : List VOper := [
  ⟨some 4, .move (.c (.d (.bool true))), none, []⟩]
def v130 : VFn := ⟨2, [.tmp 4], (.seq (.region false 2 [2, 3] r130_0) (.seq (.region false 0 [2, 3, 5] r130_1) (.seq (.region false 0 [2, 3, 5] r130_2) (.seq (.seq (.region false 0 [2, 3, 5, 14] r130_3) (.cond (.t 14) (.seq (.region false 0 [4] r130_4) .ret) .skip)) (.seq (.region false 0 [2, 3, 5] r130_5) (.seq (.seq (.region false 0 [2, 3, 19] r130_6) (.cond (.t 19) (.seq (.region false 0 [4] r130_7) .ret) .skip)) (.seq (.region true 0 [2, 3, 6] r130_8) (.seq (.region false 1 [2, 3, 6, 7] r130_9) (.seq (.region false 1 [2, 3, 6, 7, 8] r130_10) (.seq (.region false 0 [2, 3, 6, 7, 8, 9] r130_11) (.seq (.seq (.region false 0 [2, 3, 7, 8, 34] r130_12) (.cond (.t 34) (.seq (.region false 0 [4] r130_13) .ret) .skip)) (.seq (.seq (.region true 0 [3, 8, 39] r130_14) (.cond (.t 39) (.seq (.region false 0 [4] r130_15) .ret) .skip)) (.seq (.seq (.region true 0 [44] r130_16) (.cond (.t 44) (.seq (.region false 0 [4] r130_17) .ret) .skip)) (.seq (.region false 0 [4] r130_18) .ret))))))))))))))⟩
/-! loop.example/g00461/laws.FnExactCount -/
def r131_0 : List VOper := [
  ⟨some 2, .box 0 (.t 0), none, []⟩,
  ⟨some 4, .move (.c (.d (.bool false))), none, []⟩]
def r131_1 : List VOper := [
  ⟨some 5, .move (.c (.d (.int .i64 1048576))), none, []⟩]
def r131_2 : List VOper := [
  ⟨some 9, .load true 3 (.t 2), none, []⟩,
  ⟨some 10, .move (.t 5), none, []⟩,
  ⟨some 11, .call true (.c (.fn 1 [])) [.t 9, .t 10], none, []⟩,
  ⟨some 5, .move (.t 11), none, []⟩]
def r131_3 : List VOper := [
  ⟨some 12, .move (.t 5), none, []⟩,
  ⟨some 13, .bin .lss (.t 12) (.c (.d (.int .i64 0))), none, []⟩]
def r131_4 : List VOper := [
  ⟨some 4, .move (.c (.d (.bool true))), none, []⟩]
def r131_5 : List VOper := [
  ⟨some 14, .load true 3 (.t 2), none, []⟩,
  ⟨some 15, .call true (.c (.fn 2 [])) [.t 14], none, []⟩,
  ⟨some 16, .move (.t 1), none, []⟩,
  ⟨some 17, .call true (.c (.fn 81 [])) [.t 15, .t 16], none, []⟩,
  ⟨some 6, .move (.t 17), none, []⟩]
def r131_6 : List VOper := [
  ⟨some 18, .load true 3 (.t 2), none, []⟩,
  ⟨some 19, .call true (.c (.fn 2 [])) [.t 18], none, []⟩,
  ⟨some 7, .alloc 0 [.int .i64 0, .int .i64 0, .sl .nil []], none, []⟩,
  ⟨none, .store false 3 (.t 7) (.t 19), none, []⟩]
def r131_7 : List VOper := [
  ⟨some 20, .load true 3 (.t 7), none, []⟩,
  ⟨some 21, .move (.t 1), none, []⟩,
  ⟨some 22, .call true (.c (.fn 73 [])) [.t 20, .t 21], none, []⟩,
  ⟨some 8, .move (.t 22), none, []⟩]
def r131_8 : List VOper := [
  ⟨some 23, .move (.t 8), none, []⟩,
  ⟨some 24, .move (.t 6), none, []⟩,
  ⟨some 25, .bin .neq (.t 23) (.t 24), none, []⟩]
def r131_9 : List VOper := [
  ⟨some 4, .move (.c (.d (.bool false))), none, []⟩]
def r131_10 : List VOper := [
  ⟨some 26, .load true 3 (.t 7), none, []⟩,
  ⟨some 27, .load true 3 (.t 2), none, []⟩,
  ⟨some 28, .call true (.c (.fn 2 [])) [.t 27], none, [1]⟩,
  ⟨some 29, .call true (.c (.fn 5 [])) [.t 26, .t 28], none, [0, 2]⟩,
  ⟨some 30, .not (.t 29), none, [3]⟩]
def r131_11 : List VOper := [
  ⟨some 4, .move (.c (.d (.bool false))), none, []⟩]
def r131_12 : List VOper := [
  ⟨some 4, .move (.c (.d (.bool true))), none, []⟩]
def v131 : VFn := ⟨2, [.tmp 4], (.seq (.region false 1 [1, 2] r131_0) (.seq (.region false 0 [1, 2, 5] r131_1) (.seq (.region false 0 [1, 2, 5] r131_2) (.seq (.seq (.region false 0 [1, 2, 13] r131_3) (.cond (.t 13) (.seq (.region false 0 [4] r131_4) .ret) .skip)) (.seq (.region false 0 [1, 2, 6] r131_5) (.seq (.region false 1 [1, 2, 6, 7] r131_6) (.seq (.region false 0 [2, 6, 7, 8] r131_7) (.seq (.seq (.region false 0 [2, 7, 25] r131_8) (.cond (.t 25) (.seq (.region false 0 [4] r131_9) .ret) .skip)) (.seq (.seq (.region true 0 [30] r131_10) (.cond (.t 30) (.seq (.region false 0 [4] r131_11) .ret) .skip)) (.seq (.region false 0 [4] r131_12) .ret))))))))))⟩
def look : List (Nat × VFn) → Nat → Option VFn
  | [], _ => none
  | (k, v) :: r, n => if n = k then some v else look r n
def codes : List (Nat × VFn) := [(1, v1), (2, v2), (3, v3), (5, v5), (6, v6), (7, v7), (8, v8), (9, v9), (11, v11), (12, v12), (13, v13), (14, v14), (15, v15), (16, v16), (17, v17), (18, v18), (19, v19), (20, v20), (22, v22), (23, v23), (24, v24), (25, v25), (29, v29), (30, v30), (31, v31), (33, v33), (34, v34), (38, v38), (39, v39), (41, v41), (44, v44), (47, v47), (53, v53), (54, v54), (55, v55), (56, v56), (59, v59), (60, v60), (61, v61), (62, v62), (64, v64), (65, v65), (66, v66), (67, v67), (68, v68), (69, v69), (70, v70), (71, v71), (72, v72), (73, v73), (74, v74), (75, v75), (76, v76), (77, v77), (78, v78), (79, v79), (80, v80), (81, v81), (82, v82), (83, v83), (84, v84), (85, v85), (86, v86), (87, v87), (88, v88), (89, v89), (90, v90), (91, v91), (92, v92), (98, v98), (99, v99), (100, v100), (101, v101), (102, v102), (103, v103), (104, v104), (105, v105), (106, v106), (107, v107), (108, v108), (110, v110), (111, v111), (112, v112), (113, v113), (114, v114), (115, v115), (116, v116), (117, v117), (118, v118), (119, v119), (120, v120), (121, v121), (122, v122), (123, v123), (124, v124), (125, v125), (126, v126), (127, v127), (128, v128), (129, v129), (130, v130), (131, v131)]
def nats : List (Nat × (List DV → Option DV)) := [(93, joinD), (106, numAddD)]
def E : Env := ⟨look codes, fun k => (lookN nats k).map natV⟩
theorem code_1 : E.code 1 = some v1 := by kernel_rfl
theorem code_2 : E.code 2 = some v2 := by kernel_rfl
theorem code_3 : E.code 3 = some v3 := by kernel_rfl
theorem code_5 : E.code 5 = some v5 := by kernel_rfl
theorem code_6 : E.code 6 = some v6 := by kernel_rfl
theorem code_7 : E.code 7 = some v7 := by kernel_rfl
theorem code_8 : E.code 8 = some v8 := by kernel_rfl
theorem code_9 : E.code 9 = some v9 := by kernel_rfl
theorem code_11 : E.code 11 = some v11 := by kernel_rfl
theorem code_12 : E.code 12 = some v12 := by kernel_rfl
theorem code_13 : E.code 13 = some v13 := by kernel_rfl
theorem code_14 : E.code 14 = some v14 := by kernel_rfl
theorem code_15 : E.code 15 = some v15 := by kernel_rfl
theorem code_16 : E.code 16 = some v16 := by kernel_rfl
theorem code_17 : E.code 17 = some v17 := by kernel_rfl
theorem code_18 : E.code 18 = some v18 := by kernel_rfl
theorem code_19 : E.code 19 = some v19 := by kernel_rfl
theorem code_20 : E.code 20 = some v20 := by kernel_rfl
theorem code_22 : E.code 22 = some v22 := by kernel_rfl
theorem code_23 : E.code 23 = some v23 := by kernel_rfl
theorem code_24 : E.code 24 = some v24 := by kernel_rfl
theorem code_25 : E.code 25 = some v25 := by kernel_rfl
theorem code_29 : E.code 29 = some v29 := by kernel_rfl
theorem code_30 : E.code 30 = some v30 := by kernel_rfl
theorem code_31 : E.code 31 = some v31 := by kernel_rfl
theorem code_33 : E.code 33 = some v33 := by kernel_rfl
theorem code_34 : E.code 34 = some v34 := by kernel_rfl
theorem code_38 : E.code 38 = some v38 := by kernel_rfl
theorem code_39 : E.code 39 = some v39 := by kernel_rfl
theorem code_41 : E.code 41 = some v41 := by kernel_rfl
theorem code_44 : E.code 44 = some v44 := by kernel_rfl
theorem code_47 : E.code 47 = some v47 := by kernel_rfl
theorem code_53 : E.code 53 = some v53 := by kernel_rfl
theorem code_54 : E.code 54 = some v54 := by kernel_rfl
theorem code_55 : E.code 55 = some v55 := by kernel_rfl
theorem code_56 : E.code 56 = some v56 := by kernel_rfl
theorem code_59 : E.code 59 = some v59 := by kernel_rfl
theorem code_60 : E.code 60 = some v60 := by kernel_rfl
theorem code_61 : E.code 61 = some v61 := by kernel_rfl
theorem code_62 : E.code 62 = some v62 := by kernel_rfl
theorem code_64 : E.code 64 = some v64 := by kernel_rfl
theorem code_65 : E.code 65 = some v65 := by kernel_rfl
theorem code_66 : E.code 66 = some v66 := by kernel_rfl
theorem code_67 : E.code 67 = some v67 := by kernel_rfl
theorem code_68 : E.code 68 = some v68 := by kernel_rfl
theorem code_69 : E.code 69 = some v69 := by kernel_rfl
theorem code_70 : E.code 70 = some v70 := by kernel_rfl
theorem code_71 : E.code 71 = some v71 := by kernel_rfl
theorem code_72 : E.code 72 = some v72 := by kernel_rfl
theorem code_73 : E.code 73 = some v73 := by kernel_rfl
theorem code_74 : E.code 74 = some v74 := by kernel_rfl
theorem code_75 : E.code 75 = some v75 := by kernel_rfl
theorem code_76 : E.code 76 = some v76 := by kernel_rfl
theorem code_77 : E.code 77 = some v77 := by kernel_rfl
theorem code_78 : E.code 78 = some v78 := by kernel_rfl
theorem code_79 : E.code 79 = some v79 := by kernel_rfl
theorem code_80 : E.code 80 = some v80 := by kernel_rfl
theorem code_81 : E.code 81 = some v81 := by kernel_rfl
theorem code_82 : E.code 82 = some v82 := by kernel_rfl
theorem code_83 : E.code 83 = some v83 := by kernel_rfl
theorem code_84 : E.code 84 = some v84 := by kernel_rfl
theorem code_85 : E.code 85 = some v85 := by kernel_rfl
theorem code_86 : E.code 86 = some v86 := by kernel_rfl
theorem code_87 : E.code 87 = some v87 := by kernel_rfl
theorem code_88 : E.code 88 = some v88 := by kernel_rfl
theorem code_89 : E.code 89 = some v89 := by kernel_rfl
theorem code_90 : E.code 90 = some v90 := by kernel_rfl
theorem code_91 : E.code 91 = some v91 := by kernel_rfl
theorem code_92 : E.code 92 = some v92 := by kernel_rfl
theorem code_98 : E.code 98 = some v98 := by kernel_rfl
theorem code_99 : E.code 99 = some v99 := by kernel_rfl
theorem code_100 : E.code 100 = some v100 := by kernel_rfl
theorem code_101 : E.code 101 = some v101 := by kernel_rfl
theorem code_102 : E.code 102 = some v102 := by kernel_rfl
theorem code_103 : E.code 103 = some v103 := by kernel_rfl
theorem code_104 : E.code 104 = some v104 := by kernel_rfl
theorem code_105 : E.code 105 = some v105 := by kernel_rfl
theorem code_106 : E.code 106 = some v106 := by kernel_rfl
theorem code_107 : E.code 107 = some v107 := by kernel_rfl
theorem code_108 : E.code 108 = some v108 := by kernel_rfl
theorem code_110 : E.code 110 = some v110 := by kernel_rfl
theorem code_111 : E.code 111 = some v111 := by kernel_rfl
theorem code_112 : E.code 112 = some v112 := by kernel_rfl
theorem code_113 : E.code 113 = some v113 := by kernel_rfl
theorem code_114 : E.code 114 = some v114 := by kernel_rfl
theorem code_115 : E.code 115 = some v115 := by kernel_rfl
theorem code_116 : E.code 116 = some v116 := by kernel_rfl
theorem code_117 : E.code 117 = some v117 := by kernel_rfl
theorem code_118 : E.code 118 = some v118 := by kernel_rfl
theorem code_119 : E.code 119 = some v119 := by kernel_rfl
theorem code_120 : E.code 120 = some v120 := by kernel_rfl
theorem code_121 : E.code 121 = some v121 := by kernel_rfl
theorem code_122 : E.code 122 = some v122 := by kernel_rfl
theorem code_123 : E.code 123 = some v123 := by kernel_rfl
theorem code_124 : E.code 124 = some v124 := by kernel_rfl
theorem code_125 : E.code 125 = some v125 := by kernel_rfl
theorem code_126 : E.code 126 = some v126 := by kernel_rfl
theorem code_127 : E.code 127 = some v127 := by kernel_rfl
theorem code_128 : E.code 128 = some v128 := by kernel_rfl
theorem code_129 : E.code 129 = some v129 := by kernel_rfl
theorem code_130 : E.code 130 = some v130 := by kernel_rfl
theorem code_131 : E.code 131 = some v131 := by kernel_rfl
end Go.Proofs.Ytpmjooeehnmkcaa.VS
