/- The code of the functions that the laws reach, for the evaluator. -/
import Derived.Test.YtficfeekkljoeaaNat0
import Derived.KernelRfl
namespace Go.Proofs.Ytficfeekkljoeaa.VS
set_option linter.unusedVariables false
/-! loop.example/g00461/laws.szTerm -/
def r1_0 : List VOper := [
  ⟨some 2, .box 0 (.t 0), none, []⟩,
  ⟨some 4, .move (.c (.d (.int .i64 0))), none, []⟩]
def r1_1 : List VOper := [
  ⟨some 5, .fieldAddr 2 (.t 2), none, []⟩,
  ⟨some 6, .load false 1 (.t 5), none, []⟩,
  ⟨some 7, .move (.t 1), none, []⟩,
  ⟨some 8, .call true (.c (.fn 9 [])) [.t 6, .t 7], none, []⟩,
  ⟨some 1, .move (.t 8), none, []⟩]
def r1_2 : List VOper := [
  ⟨some 9, .move (.t 1), none, []⟩,
  ⟨some 10, .bin .lss (.t 9) (.c (.d (.int .i64 0))), none, []⟩]
def r1_3 : List VOper := [
  ⟨some 4, .move (.c (.d (.int .i64 (-1)))), none, []⟩]
def r1_4 : List VOper := [
  ⟨some 11, .move (.t 1), none, []⟩,
  ⟨some 4, .move (.t 11), none, []⟩]
def v1 : VFn := ⟨2, [.tmp 4], (.seq (.region false 1 [1, 2] r1_0) (.seq (.region false 0 [1] r1_1) (.seq (.seq (.region false 0 [1, 10] r1_2) (.cond (.t 10) (.seq (.region false 0 [4] r1_3) .ret) .skip)) (.seq (.region false 0 [4] r1_4) .ret))))⟩
/-! loop.example/g00461/laws.toTerm -/
def r2_0 : List VOper := [
  ⟨some 1, .box 0 (.t 0), none, []⟩,
  ⟨some 2, .alloc 1 [.int .i64 0, .int .i64 0, .sl .nil []], none, []⟩]
def r2_1 : List VOper := [
  ⟨some 3, .alloc 0 [.int .i64 0, .int .i64 0, .sl .nil []], none, []⟩]
def r2_2 : List VOper := [
  ⟨some 4, .fieldAddr 0 (.t 1), none, []⟩,
  ⟨some 5, .load false 1 (.t 4), none, []⟩,
  ⟨some 6, .fieldAddr 0 (.t 3), none, []⟩,
  ⟨none, .store false 1 (.t 6) (.t 5), none, []⟩]
def r2_3 : List VOper := [
  ⟨some 7, .fieldAddr 1 (.t 1), none, []⟩,
  ⟨some 8, .load false 1 (.t 7), none, []⟩,
  ⟨some 9, .fieldAddr 1 (.t 3), none, []⟩,
  ⟨none, .store false 1 (.t 9) (.t 8), none, []⟩]
def r2_4 : List VOper := [
  ⟨some 10, .fieldAddr 2 (.t 1), none, []⟩,
  ⟨some 11, .load false 1 (.t 10), none, []⟩,
  ⟨some 12, .call true (.c (.fn 8 [])) [.t 11], none, []⟩,
  ⟨some 13, .fieldAddr 2 (.t 3), none, []⟩,
  ⟨none, .store false 1 (.t 13) (.t 12), none, []⟩]
def r2_5 : List VOper := [
  ⟨some 14, .load true 3 (.t 3), none, []⟩,
  ⟨none, .store false 3 (.t 2) (.t 14), none, []⟩]
def v2 : VFn := ⟨1, [.cell 2 true 3], (.seq (.region false 2 [1, 2] r2_0) (.seq (.region false 1 [1, 2, 3] r2_1) (.seq (.region false 0 [1, 2, 3] r2_2) (.seq (.region false 0 [1, 2, 3] r2_3) (.seq (.region false 0 [2, 3] r2_4) (.seq (.region false 0 [2] r2_5) .ret))))))⟩
/-! loop.example/g00461/spec.TermSame -/
def r3_0 : List VOper := [
  ⟨some 2, .box 0 (.t 0), none, []⟩,
  ⟨some 3, .box 1 (.t 1), none, []⟩,
  ⟨some 4, .move (.c (.d (.bool false))), none, []⟩]
def r3_1 : List VOper := [
  ⟨some 6, .fieldAddr 0 (.t 2), none, []⟩,
  ⟨some 7, .load false 1 (.t 6), none, []⟩,
  ⟨some 8, .fieldAddr 0 (.t 3), none, []⟩,
  ⟨some 9, .load false 1 (.t 8), none, []⟩,
  ⟨some 10, .bin .neq (.t 7) (.t 9), none, []⟩,
  ⟨some 11, .move (.t 10), none, []⟩,
  ⟨some 12, .fieldAddr 1 (.t 2), some (11, false), []⟩,
  ⟨some 13, .load false 1 (.t 12), some (11, false), []⟩,
  ⟨some 14, .fieldAddr 1 (.t 3), some (11, false), []⟩,
  ⟨some 15, .load false 1 (.t 14), some (11, false), []⟩,
  ⟨some 16, .bin .neq (.t 13) (.t 15), some (11, false), []⟩,
  ⟨some 17, .pick (.t 11) (.c (.d (.bool true))) (.t 16), none, []⟩,
  ⟨some 18, .move (.t 17), none, []⟩,
  ⟨some 19, .fieldAddr 2 (.t 2), some (18, false), []⟩,
  ⟨some 20, .load false 1 (.t 19), some (18, false), []⟩,
  ⟨some 21, .len false (.t 20), some (18, false), []⟩,
  ⟨some 22, .fieldAddr 2 (.t 3), some (18, false), []⟩,
  ⟨some 23, .load false 1 (.t 22), some (18, false), []⟩,
  ⟨some 24, .len false (.t 23), some (18, false), []⟩,
  ⟨some 25, .bin .neq (.t 21) (.t 24), some (18, false), []⟩,
  ⟨some 26, .pick (.t 18) (.c (.d (.bool true))) (.t 25), none, []⟩]
def r3_2 : List VOper := [
  ⟨some 4, .move (.c (.d (.bool false))), none, []⟩]
def r3_3 : List VOper := [
  ⟨some 5, .move (.c (.d (.int .i64 0))), none, []⟩]
def r3_4 : List VOper := [
  ⟨some 27, .move (.t 5), none, []⟩,
  ⟨some 28, .fieldAddr 2 (.t 2), none, []⟩,
  ⟨some 29, .load false 1 (.t 28), none, []⟩,
  ⟨some 30, .len false (.t 29), none, []⟩,
  ⟨some 31, .bin .lss (.t 27) (.t 30), none, []⟩]
def r3_6 : List VOper := [
  ⟨some 34, .fieldAddr 2 (.t 2), none, []⟩,
  ⟨some 35, .load false 1 (.t 34), none, [0]⟩,
  ⟨some 36, .move (.t 5), none, []⟩,
  ⟨some 37, .indexAddr 3 none (.t 35) (.t 36), none, [1, 2]⟩,
  ⟨some 38, .load true 3 (.t 37), none, [3]⟩,
  ⟨some 39, .fieldAddr 2 (.t 3), none, []⟩,
  ⟨some 40, .load false 1 (.t 39), none, [5]⟩,
  ⟨some 41, .move (.t 5), none, []⟩,
  ⟨some 42, .indexAddr 3 none (.t 40) (.t 41), none, [6, 7]⟩,
  ⟨some 43, .load true 3 (.t 42), none, [8]⟩,
  ⟨some 44, .call true (.c (.fn 3 [])) [.t 38, .t 43], none, [4, 9]⟩,
  ⟨some 45, .not (.t 44), none, [10]⟩]
def r3_7 : List VOper := [
  ⟨some 4, .move (.c (.d (.bool false))), none, []⟩]
def r3_5 : List VOper := [
  ⟨some 32, .move (.t 5), none, []⟩,
  ⟨some 33, .bin .add (.t 32) (.c (.d (.int .i64 1))), none, []⟩,
  ⟨some 5, .move (.t 33), none, []⟩]
def b3_0 : VCode := (.seq (.seq (.region false 0 [2, 3, 5, 31] r3_4) (.cond (.t 31) .skip (.exit 0))) (.seq (.block 1 (.seq (.region true 0 [2, 3, 5, 45] r3_6) (.cond (.t 45) (.seq (.region false 0 [4] r3_7) .ret) .skip))) (.region false 0 [2, 3, 5] r3_5)))
def r3_8 : List VOper := [
  ⟨some 4, .move (.c (.d (.bool true))), none, []⟩]
def v3 : VFn := ⟨2, [.tmp 4], (.seq (.region false 2 [2, 3] r3_0) (.seq (.seq (.region false 0 [2, 3, 26] r3_1) (.cond (.t 26) (.seq (.region false 0 [4] r3_2) .ret) .skip)) (.seq (.seq (.region false 0 [2, 3, 5] r3_3) (.block 0 (.loop [2, 3, 5] b3_0))) (.seq (.region false 0 [4] r3_8) .ret))))⟩
/-! loop.example/g00461/laws.eqTerm -/
def r5_0 : List VOper := [
  ⟨some 2, .box 0 (.t 0), none, []⟩,
  ⟨some 3, .box 1 (.t 1), none, []⟩,
  ⟨some 4, .move (.c (.d (.bool false))), none, []⟩]
def r5_1 : List VOper := [
  ⟨some 5, .fieldAddr 0 (.t 2), none, []⟩,
  ⟨some 6, .load false 1 (.t 5), none, []⟩,
  ⟨some 7, .fieldAddr 0 (.t 3), none, []⟩,
  ⟨some 8, .load false 1 (.t 7), none, []⟩,
  ⟨some 9, .bin .neq (.t 6) (.t 8), none, []⟩]
def r5_2 : List VOper := [
  ⟨some 4, .move (.c (.d (.bool false))), none, []⟩]
def r5_3 : List VOper := [
  ⟨some 10, .fieldAddr 1 (.t 2), none, []⟩,
  ⟨some 11, .load false 1 (.t 10), none, []⟩,
  ⟨some 12, .fieldAddr 1 (.t 3), none, []⟩,
  ⟨some 13, .load false 1 (.t 12), none, []⟩,
  ⟨some 14, .bin .neq (.t 11) (.t 13), none, []⟩]
def r5_4 : List VOper := [
  ⟨some 4, .move (.c (.d (.bool false))), none, []⟩]
def r5_5 : List VOper := [
  ⟨some 15, .fieldAddr 2 (.t 2), none, []⟩,
  ⟨some 16, .load false 1 (.t 15), none, []⟩,
  ⟨some 17, .fieldAddr 2 (.t 3), none, []⟩,
  ⟨some 18, .load false 1 (.t 17), none, []⟩,
  ⟨some 19, .call true (.c (.fn 7 [])) [.t 16, .t 18], none, []⟩,
  ⟨some 20, .not (.t 19), none, []⟩]
def r5_6 : List VOper := [
  ⟨some 4, .move (.c (.d (.bool false))), none, []⟩]
def r5_7 : List VOper := [
  ⟨some 4, .move (.c (.d (.bool true))), none, []⟩]
def v5 : VFn := ⟨2, [.tmp 4], (.seq (.region false 2 [2, 3] r5_0) (.seq (.seq (.region false 0 [2, 3, 9] r5_1) (.cond (.t 9) (.seq (.region false 0 [4] r5_2) .ret) .skip)) (.seq (.seq (.region false 0 [2, 3, 14] r5_3) (.cond (.t 14) (.seq (.region false 0 [4] r5_4) .ret) .skip)) (.seq (.seq (.region false 0 [20] r5_5) (.cond (.t 20) (.seq (.region false 0 [4] r5_6) .ret) .skip)) (.seq (.region false 0 [4] r5_7) .ret)))))⟩
/-! loop.example/g00461/impl.compare -/
def r6_0 : List VOper := [
  ⟨some 2, .box 0 (.t 0), none, []⟩,
  ⟨some 3, .box 1 (.t 1), none, []⟩,
  ⟨some 4, .move (.c (.d (.int .i64 0))), none, []⟩]
def r6_1 : List VOper := [
  ⟨some 9, .fieldAddr 0 (.t 2), none, []⟩,
  ⟨some 10, .load false 1 (.t 9), none, []⟩,
  ⟨some 11, .fieldAddr 0 (.t 3), none, []⟩,
  ⟨some 12, .load false 1 (.t 11), none, []⟩,
  ⟨some 13, .build [.int .i64 0, .int .i64 0] [(0, 1, .t 10), (1, 1, .t 12)], none, []⟩,
  ⟨some 14, .fieldAddr 1 (.t 2), none, []⟩,
  ⟨some 15, .load false 1 (.t 14), none, []⟩,
  ⟨some 16, .fieldAddr 1 (.t 3), none, []⟩,
  ⟨some 17, .load false 1 (.t 16), none, []⟩,
  ⟨some 18, .build [.int .i64 0, .int .i64 0] [(0, 1, .t 15), (1, 1, .t 17)], none, []⟩,
  ⟨some 19, .fieldAddr 2 (.t 2), none, []⟩,
  ⟨some 20, .load false 1 (.t 19), none, []⟩,
  ⟨some 21, .len false (.t 20), none, []⟩,
  ⟨some 22, .fieldAddr 2 (.t 3), none, []⟩,
  ⟨some 23, .load false 1 (.t 22), none, []⟩,
  ⟨some 24, .len false (.t 23), none, []⟩,
  ⟨some 25, .build [.int .i64 0, .int .i64 0] [(0, 1, .t 21), (1, 1, .t 24)], none, []⟩,
  ⟨some 26, .buildSlice 2 (.agg [.int .i64 0, .int .i64 0]) 3 [(0, .t 13), (1, .t 18), (2, .t 25)], none, []⟩,
  ⟨some 27, .len false (.t 26), none, []⟩,
  ⟨some 28, .move (.c (.d (.int .i64 0))), none, []⟩]
def r6_2 : List VOper := [
  ⟨some 29, .bin .lss (.t 28) (.t 27), none, []⟩]
def r6_3 : List VOper := [
  ⟨some 30, .indexAddr 2 none (.t 26) (.t 28), none, []⟩,
  ⟨some 31, .load true 2 (.t 30), none, []⟩,
  ⟨some 6, .alloc 0 [.int .i64 0, .int .i64 0], none, []⟩,
  ⟨none, .store false 2 (.t 6) (.t 31), none, []⟩]
def r6_4 : List VOper := [
  ⟨some 33, .indexAddr 1 (some 2) (.t 6) (.c (.d (.int .i64 0))), none, []⟩,
  ⟨some 34, .load false 1 (.t 33), none, []⟩,
  ⟨some 35, .indexAddr 1 (some 2) (.t 6) (.c (.d (.int .i64 1))), none, []⟩,
  ⟨some 36, .load false 1 (.t 35), none, []⟩,
  ⟨some 37, .bin .lss (.t 34) (.t 36), none, []⟩,
  ⟨some 32, .move (.t 37), none, []⟩]
def r6_5 : List VOper := [
  ⟨some 4, .move (.c (.d (.int .i64 (-1)))), none, []⟩]
def r6_6 : List VOper := [
  ⟨some 39, .indexAddr 1 (some 2) (.t 6) (.c (.d (.int .i64 0))), none, []⟩,
  ⟨some 40, .load false 1 (.t 39), none, []⟩,
  ⟨some 41, .indexAddr 1 (some 2) (.t 6) (.c (.d (.int .i64 1))), none, []⟩,
  ⟨some 42, .load false 1 (.t 41), none, []⟩,
  ⟨some 43, .bin .gtr (.t 40) (.t 42), none, []⟩,
  ⟨some 38, .move (.t 43), none, []⟩]
def r6_7 : List VOper := [
  ⟨some 4, .move (.c (.d (.int .i64 1))), none, []⟩]
def r6_8 : List VOper := [
  ⟨some 44, .bin .add (.t 28) (.c (.d (.int .i64 1))), none, []⟩,
  ⟨some 28, .move (.t 44), none, []⟩]
def b6_0 : VCode := (.seq (.region false 0 [2, 3, 26, 27, 28, 29] r6_2) (.seq (.cond (.t 29) .skip (.exit 0)) (.seq (.block 1 (.seq (.region false 1 [2, 3, 6, 26, 27, 28] r6_3) (.block 2 (.seq (.region false 0 [2, 3, 6, 26, 27, 28, 32] r6_4) (.cond (.t 32) (.seq (.region false 0 [4] r6_5) .ret) (.seq (.region false 0 [2, 3, 26, 27, 28, 38] r6_6) (.cond (.t 38) (.seq (.region false 0 [4] r6_7) .ret) .skip))))))) (.region false 0 [2, 3, 26, 27, 28] r6_8))))
def r6_9 : List VOper := [
  ⟨some 45, .fieldAddr 2 (.t 2), none, []⟩,
  ⟨some 46, .load false 1 (.t 45), none, []⟩,
  ⟨some 47, .len false (.t 46), none, []⟩,
  ⟨some 48, .move (.c (.d (.int .i64 0))), none, []⟩]
def r6_10 : List VOper := [
  ⟨some 49, .bin .lss (.t 48) (.t 47), none, []⟩]
def r6_11 : List VOper := [
  ⟨some 50, .move (.t 48), none, []⟩,
  ⟨some 7, .move (.t 50), none, []⟩]
def r6_12 : List VOper := [
  ⟨some 51, .fieldAddr 2 (.t 2), none, []⟩,
  ⟨some 52, .load false 1 (.t 51), none, [0]⟩,
  ⟨some 53, .move (.t 7), none, []⟩,
  ⟨some 54, .indexAddr 3 none (.t 52) (.t 53), none, [1, 2]⟩,
  ⟨some 55, .load true 3 (.t 54), none, [3]⟩,
  ⟨some 56, .fieldAddr 2 (.t 3), none, []⟩,
  ⟨some 57, .load false 1 (.t 56), none, [5]⟩,
  ⟨some 58, .move (.t 7), none, []⟩,
  ⟨some 59, .indexAddr 3 none (.t 57) (.t 58), none, [6, 7]⟩,
  ⟨some 60, .load true 3 (.t 59), none, [8]⟩,
  ⟨some 61, .call true (.c (.fn 6 [])) [.t 55, .t 60], none, [4, 9]⟩,
  ⟨some 8, .move (.t 61), none, [0, 1, 2, 3, 4, 5, 6, 7, 8, 9, 10]⟩]
def r6_13 : List VOper := [
  ⟨some 62, .move (.t 8), none, []⟩,
  ⟨some 63, .bin .neq (.t 62) (.c (.d (.int .i64 0))), none, []⟩]
def r6_14 : List VOper := [
  ⟨some 64, .move (.t 8), none, []⟩,
  ⟨some 4, .move (.t 64), none, []⟩]
def r6_15 : List VOper := [
  ⟨some 65, .bin .add (.t 48) (.c (.d (.int .i64 1))), none, []⟩,
  ⟨some 48, .move (.t 65), none, []⟩]
def b6_1 : VCode := (.seq (.region false 0 [2, 3, 47, 48, 49] r6_10) (.seq (.cond (.t 49) .skip (.exit 3)) (.seq (.block 4 (.seq (.region false 0 [2, 3, 7, 47, 48] r6_11) (.seq (.region true 0 [2, 3, 8, 47, 48] r6_12) (.seq (.region false 0 [2, 3, 8, 47, 48, 63] r6_13) (.cond (.t 63) (.seq (.region false 0 [4] r6_14) .ret) .skip))))) (.region false 0 [2, 3, 47, 48] r6_15))))
def r6_16 : List VOper := [
  ⟨some 4, .move (.c (.d (.int .i64 0))), none, []⟩]
def v6 : VFn := ⟨2, [.tmp 4], (.seq (.region false 2 [2, 3] r6_0) (.seq (.seq (.region false 0 [2, 3, 26, 27, 28] r6_1) (.block 0 (.loop [2, 3, 26, 27, 28] b6_0))) (.seq (.seq (.region false 0 [2, 3, 47, 48] r6_9) (.block 3 (.loop [2, 3, 47, 48] b6_1))) (.seq (.region false 0 [4] r6_16) .ret))))⟩
/-! loop.example/g00461/laws.eqTermS -/
def r7_0 : List VOper := [
  ⟨some 4, .move (.c (.d (.bool false))), none, []⟩]
def r7_1 : List VOper := [
  ⟨some 6, .move (.t 0), none, []⟩,
  ⟨some 7, .len false (.t 6), none, []⟩,
  ⟨some 8, .move (.t 1), none, []⟩,
  ⟨some 9, .len false (.t 8), none, []⟩,
  ⟨some 10, .bin .neq (.t 7) (.t 9), none, []⟩]
def r7_2 : List VOper := [
  ⟨some 4, .move (.c (.d (.bool false))), none, []⟩]
def r7_3 : List VOper := [
  ⟨some 5, .move (.c (.d (.int .i64 0))), none, []⟩]
def r7_4 : List VOper := [
  ⟨some 11, .move (.t 5), none, []⟩,
  ⟨some 12, .move (.t 0), none, []⟩,
  ⟨some 13, .len false (.t 12), none, []⟩,
  ⟨some 14, .bin .lss (.t 11) (.t 13), none, []⟩]
def r7_6 : List VOper := [
  ⟨some 17, .move (.t 0), none, []⟩,
  ⟨some 18, .move (.t 5), none, []⟩,
  ⟨some 19, .indexAddr 3 none (.t 17) (.t 18), none, [0, 1]⟩,
  ⟨some 20, .load true 3 (.t 19), none, [2]⟩,
  ⟨some 21, .move (.t 1), none, []⟩,
  ⟨some 22, .move (.t 5), none, []⟩,
  ⟨some 23, .indexAddr 3 none (.t 21) (.t 22), none, [4, 5]⟩,
  ⟨some 24, .load true 3 (.t 23), none, [6]⟩,
  ⟨some 25, .call true (.c (.fn 5 [])) [.t 20, .t 24], none, [3, 7]⟩,
  ⟨some 26, .not (.t 25), none, [8]⟩]
def r7_7 : List VOper := [
  ⟨some 4, .move (.c (.d (.bool false))), none, []⟩]
def r7_5 : List VOper := [
  ⟨some 15, .move (.t 5), none, []⟩,
  ⟨some 16, .bin .add (.t 15) (.c (.d (.int .i64 1))), none, []⟩,
  ⟨some 5, .move (.t 16), none, []⟩]
def b7_0 : VCode := (.seq (.seq (.region false 0 [0, 1, 5, 14] r7_4) (.cond (.t 14) .skip (.exit 0))) (.seq (.block 1 (.seq (.region true 0 [0, 1, 5, 26] r7_6) (.cond (.t 26) (.seq (.region false 0 [4] r7_7) .ret) .skip))) (.region false 0 [0, 1, 5] r7_5)))
def r7_8 : List VOper := [
  ⟨some 4, .move (.c (.d (.bool true))), none, []⟩]
def v7 : VFn := ⟨2, [.tmp 4], (.seq (.region false 0 [0, 1] r7_0) (.seq (.seq (.region false 0 [0, 1, 10] r7_1) (.cond (.t 10) (.seq (.region false 0 [4] r7_2) .ret) .skip)) (.seq (.seq (.region false 0 [0, 1, 5] r7_3) (.block 0 (.loop [0, 1, 5] b7_0))) (.seq (.region false 0 [4] r7_8) .ret))))⟩
/-! loop.example/g00461/laws.toTermS -/
def r8_0 : List VOper := [
  ⟨some 2, .move (.c (.d (.sl .nil []))), none, []⟩]
def r8_1 : List VOper := [
  ⟨some 5, .move (.t 0), none, []⟩,
  ⟨some 6, .len false (.t 5), none, []⟩,
  ⟨some 7, .makeSlice 0 3 40 (.agg [.int .i64 0, .int .i64 0, .sl .nil []]) (.t 6), none, []⟩,
  ⟨some 3, .move (.t 7), none, []⟩]
def r8_2 : List VOper := [
  ⟨some 4, .move (.c (.d (.int .i64 0))), none, []⟩]
def r8_3 : List VOper := [
  ⟨some 8, .move (.t 4), none, []⟩,
  ⟨some 9, .move (.t 0), none, []⟩,
  ⟨some 10, .len false (.t 9), none, []⟩,
  ⟨some 11, .bin .lss (.t 8) (.t 10), none, []⟩]
def r8_5 : List VOper := [
  ⟨some 14, .move (.t 3), none, []⟩,
  ⟨some 15, .move (.t 4), none, []⟩,
  ⟨some 16, .move (.t 0), none, []⟩,
  ⟨some 17, .move (.t 4), none, []⟩,
  ⟨some 18, .indexAddr 3 none (.t 16) (.t 17), none, []⟩,
  ⟨some 19, .load true 3 (.t 18), none, []⟩,
  ⟨some 20, .call true (.c (.fn 2 [])) [.t 19], none, []⟩,
  ⟨some 21, .indexAddr 3 none (.t 14) (.t 15), none, []⟩,
  ⟨none, .store false 3 (.t 21) (.t 20), none, []⟩]
def r8_4 : List VOper := [
  ⟨some 12, .move (.t 4), none, []⟩,
  ⟨some 13, .bin .add (.t 12) (.c (.d (.int .i64 1))), none, []⟩,
  ⟨some 4, .move (.t 13), none, []⟩]
def b8_0 : VCode := (.seq (.seq (.region false 0 [0, 3, 4, 11] r8_3) (.cond (.t 11) .skip (.exit 0))) (.seq (.block 1 (.region false 0 [0, 3, 4] r8_5)) (.region false 0 [0, 3, 4] r8_4)))
def r8_6 : List VOper := [
  ⟨some 22, .move (.t 3), none, []⟩,
  ⟨some 2, .move (.t 22), none, []⟩]
def v8 : VFn := ⟨1, [.tmp 2], (.seq (.region false 0 [0] r8_0) (.seq (.region false 1 [0, 3] r8_1) (.seq (.seq (.region false 0 [0, 3, 4] r8_2) (.block 0 (.loop [0, 3, 4] b8_0))) (.seq (.region false 0 [2] r8_6) .ret))))⟩
/-! loop.example/g00461/laws.szTermS -/
def r9_0 : List VOper := [
  ⟨some 4, .move (.c (.d (.int .i64 0))), none, []⟩]
def r9_1 : List VOper := [
  ⟨some 6, .move (.t 1), none, []⟩,
  ⟨some 7, .move (.t 0), none, []⟩,
  ⟨some 8, .len false (.t 7), none, []⟩,
  ⟨some 9, .bin .sub (.t 6) (.t 8), none, []⟩,
  ⟨some 1, .move (.t 9), none, []⟩]
def r9_2 : List VOper := [
  ⟨some 10, .move (.t 1), none, []⟩,
  ⟨some 11, .bin .lss (.t 10) (.c (.d (.int .i64 0))), none, []⟩]
def r9_3 : List VOper := [
  ⟨some 4, .move (.c (.d (.int .i64 (-1)))), none, []⟩]
def r9_4 : List VOper := [
  ⟨some 5, .move (.c (.d (.int .i64 0))), none, []⟩]
def r9_5 : List VOper := [
  ⟨some 12, .move (.t 5), none, []⟩,
  ⟨some 13, .move (.t 0), none, []⟩,
  ⟨some 14, .len false (.t 13), none, []⟩,
  ⟨some 15, .bin .lss (.t 12) (.t 14), none, []⟩]
def r9_7 : List VOper := [
  ⟨some 18, .move (.t 0), none, []⟩,
  ⟨some 19, .move (.t 5), none, []⟩,
  ⟨some 20, .indexAddr 3 none (.t 18) (.t 19), none, []⟩,
  ⟨some 21, .load true 3 (.t 20), none, []⟩,
  ⟨some 22, .move (.t 1), none, []⟩,
  ⟨some 23, .call true (.c (.fn 1 [])) [.t 21, .t 22], none, []⟩,
  ⟨some 1, .move (.t 23), none, []⟩]
def r9_8 : List VOper := [
  ⟨some 24, .move (.t 1), none, []⟩,
  ⟨some 25, .bin .lss (.t 24) (.c (.d (.int .i64 0))), none, []⟩]
def r9_9 : List VOper := [
  ⟨some 4, .move (.c (.d (.int .i64 (-1)))), none, []⟩]
def r9_6 : List VOper := [
  ⟨some 16, .move (.t 5), none, []⟩,
  ⟨some 17, .bin .add (.t 16) (.c (.d (.int .i64 1))), none, []⟩,
  ⟨some 5, .move (.t 17), none, []⟩]
def b9_0 : VCode := (.seq (.seq (.region false 0 [0, 1, 5, 15] r9_5) (.cond (.t 15) .skip (.exit 0))) (.seq (.block 1 (.seq (.region false 0 [0, 1, 5] r9_7) (.seq (.region false 0 [0, 1, 5, 25] r9_8) (.cond (.t 25) (.seq (.region false 0 [4] r9_9) .ret) .skip)))) (.region false 0 [0, 1, 5] r9_6)))
def r9_10 : List VOper := [
  ⟨some 26, .move (.t 1), none, []⟩,
  ⟨some 4, .move (.t 26), none, []⟩]
def v9 : VFn := ⟨2, [.tmp 4], (.seq (.region false 0 [0, 1] r9_0) (.seq (.region false 0 [0, 1] r9_1) (.seq (.seq (.region false 0 [0, 1, 11] r9_2) (.cond (.t 11) (.seq (.region false 0 [4] r9_3) .ret) .skip)) (.seq (.seq (.region false 0 [0, 1, 5] r9_4) (.block 0 (.loop [0, 1, 5] b9_0))) (.seq (.region false 0 [4] r9_10) .ret)))))⟩
/-! loop.example/g00461/laws.szSymS -/
def r11_0 : List VOper := [
  ⟨some 4, .move (.c (.d (.int .i64 0))), none, []⟩]
def r11_1 : List VOper := [
  ⟨some 6, .move (.t 1), none, []⟩,
  ⟨some 7, .move (.t 0), none, []⟩,
  ⟨some 8, .len false (.t 7), none, []⟩,
  ⟨some 9, .bin .sub (.t 6) (.t 8), none, []⟩,
  ⟨some 1, .move (.t 9), none, []⟩]
def r11_2 : List VOper := [
  ⟨some 10, .move (.t 1), none, []⟩,
  ⟨some 11, .bin .lss (.t 10) (.c (.d (.int .i64 0))), none, []⟩]
def r11_3 : List VOper := [
  ⟨some 4, .move (.c (.d (.int .i64 (-1)))), none, []⟩]
def r11_4 : List VOper := [
  ⟨some 5, .move (.c (.d (.int .i64 0))), none, []⟩]
def r11_5 : List VOper := [
  ⟨some 12, .move (.t 5), none, []⟩,
  ⟨some 13, .move (.t 0), none, []⟩,
  ⟨some 14, .len false (.t 13), none, []⟩,
  ⟨some 15, .bin .lss (.t 12) (.t 14), none, []⟩]
def r11_7 : List VOper := [
  ⟨some 18, .move (.t 0), none, []⟩,
  ⟨some 19, .move (.t 5), none, []⟩,
  ⟨some 20, .indexAddr 3 none (.t 18) (.t 19), none, []⟩,
  ⟨some 21, .load true 3 (.t 20), none, []⟩,
  ⟨some 22, .move (.t 1), none, []⟩,
  ⟨some 23, .call true (.c (.fn 17 [])) [.t 21, .t 22], none, []⟩,
  ⟨some 1, .move (.t 23), none, []⟩]
def r11_8 : List VOper := [
  ⟨some 24, .move (.t 1), none, []⟩,
  ⟨some 25, .bin .lss (.t 24) (.c (.d (.int .i64 0))), none, []⟩]
def r11_9 : List VOper := [
  ⟨some 4, .move (.c (.d (.int .i64 (-1)))), none, []⟩]
def r11_6 : List VOper := [
  ⟨some 16, .move (.t 5), none, []⟩,
  ⟨some 17, .bin .add (.t 16) (.c (.d (.int .i64 1))), none, []⟩,
  ⟨some 5, .move (.t 17), none, []⟩]
def b11_0 : VCode := (.seq (.seq (.region false 0 [0, 1, 5, 15] r11_5) (.cond (.t 15) .skip (.exit 0))) (.seq (.block 1 (.seq (.region false 0 [0, 1, 5] r11_7) (.seq (.region false 0 [0, 1, 5, 25] r11_8) (.cond (.t 25) (.seq (.region false 0 [4] r11_9) .ret) .skip)))) (.region false 0 [0, 1, 5] r11_6)))
def r11_10 : List VOper := [
  ⟨some 26, .move (.t 1), none, []⟩,
  ⟨some 4, .move (.t 26), none, []⟩]
def v11 : VFn := ⟨2, [.tmp 4], (.seq (.region false 0 [0, 1] r11_0) (.seq (.region false 0 [0, 1] r11_1) (.seq (.seq (.region false 0 [0, 1, 11] r11_2) (.cond (.t 11) (.seq (.region false 0 [4] r11_3) .ret) .skip)) (.seq (.seq (.region false 0 [0, 1, 5] r11_4) (.block 0 (.loop [0, 1, 5] b11_0))) (.seq (.region false 0 [4] r11_10) .ret)))))⟩
/-! loop.example/g00461/laws.toSymS -/
def r12_0 : List VOper := [
  ⟨some 2, .move (.c (.d (.sl .nil []))), none, []⟩]
def r12_1 : List VOper := [
  ⟨some 5, .move (.t 0), none, []⟩,
  ⟨some 6, .len false (.t 5), none, []⟩,
  ⟨some 7, .makeSlice 0 3 32 (.agg [.str ⟨#[]⟩, .int .i64 0, .bool false]) (.t 6), none, []⟩,
  ⟨some 3, .move (.t 7), none, []⟩]
def r12_2 : List VOper := [
  ⟨some 4, .move (.c (.d (.int .i64 0))), none, []⟩]
def r12_3 : List VOper := [
  ⟨some 8, .move (.t 4), none, []⟩,
  ⟨some 9, .move (.t 0), none, []⟩,
  ⟨some 10, .len false (.t 9), none, []⟩,
  ⟨some 11, .bin .lss (.t 8) (.t 10), none, []⟩]
def r12_5 : List VOper := [
  ⟨some 14, .move (.t 3), none, []⟩,
  ⟨some 15, .move (.t 4), none, []⟩,
  ⟨some 16, .move (.t 0), none, []⟩,
  ⟨some 17, .move (.t 4), none, []⟩,
  ⟨some 18, .indexAddr 3 none (.t 16) (.t 17), none, []⟩,
  ⟨some 19, .load true 3 (.t 18), none, []⟩,
  ⟨some 20, .call true (.c (.fn 16 [])) [.t 19], none, []⟩,
  ⟨some 21, .indexAddr 3 none (.t 14) (.t 15), none, []⟩,
  ⟨none, .store false 3 (.t 21) (.t 20), none, []⟩]
def r12_4 : List VOper := [
  ⟨some 12, .move (.t 4), none, []⟩,
  ⟨some 13, .bin .add (.t 12) (.c (.d (.int .i64 1))), none, []⟩,
  ⟨some 4, .move (.t 13), none, []⟩]
def b12_0 : VCode := (.seq (.seq (.region false 0 [0, 3, 4, 11] r12_3) (.cond (.t 11) .skip (.exit 0))) (.seq (.block 1 (.region false 0 [0, 3, 4] r12_5)) (.region false 0 [0, 3, 4] r12_4)))
def r12_6 : List VOper := [
  ⟨some 22, .move (.t 3), none, []⟩,
  ⟨some 2, .move (.t 22), none, []⟩]
def v12 : VFn := ⟨1, [.tmp 2], (.seq (.region false 0 [0] r12_0) (.seq (.region false 1 [0, 3] r12_1) (.seq (.seq (.region false 0 [0, 3, 4] r12_2) (.block 0 (.loop [0, 3, 4] b12_0))) (.seq (.region false 0 [2] r12_6) .ret))))⟩
/-! loop.example/g00461/spec.SymOf -/
def r13_0 : List VOper := [
  ⟨some 4, .move (.c (.d (.int .i64 0))), none, []⟩]
def r13_1 : List VOper := [
  ⟨some 5, .move (.c (.d (.int .i64 0))), none, []⟩]
def r13_2 : List VOper := [
  ⟨some 6, .move (.t 5), none, []⟩,
  ⟨some 7, .move (.t 0), none, []⟩,
  ⟨some 8, .len false (.t 7), none, []⟩,
  ⟨some 9, .bin .lss (.t 6) (.t 8), none, []⟩]
def r13_4 : List VOper := [
  ⟨some 12, .move (.t 0), none, []⟩,
  ⟨some 13, .move (.t 5), none, []⟩,
  ⟨some 14, .indexAddr 3 none (.t 12) (.t 13), none, []⟩,
  ⟨some 15, .fieldAddr 0 (.t 14), none, []⟩,
  ⟨some 16, .load false 1 (.t 15), none, []⟩,
  ⟨some 17, .move (.t 1), none, []⟩,
  ⟨some 18, .bin .eql (.t 16) (.t 17), none, []⟩]
def r13_5 : List VOper := [
  ⟨some 19, .move (.t 5), none, []⟩,
  ⟨some 4, .move (.t 19), none, []⟩]
def r13_3 : List VOper := [
  ⟨some 10, .move (.t 5), none, []⟩,
  ⟨some 11, .bin .add (.t 10) (.c (.d (.int .i64 1))), none, []⟩,
  ⟨some 5, .move (.t 11), none, []⟩]
def b13_0 : VCode := (.seq (.seq (.region false 0 [0, 1, 5, 9] r13_2) (.cond (.t 9) .skip (.exit 0))) (.seq (.block 1 (.seq (.region false 0 [0, 1, 5, 18] r13_4) (.cond (.t 18) (.seq (.region false 0 [4] r13_5) .ret) .skip))) (.region false 0 [0, 1, 5] r13_3)))
def r13_6 : List VOper := [
  ⟨some 4, .move (.c (.d (.int .i64 (-1)))), none, []⟩]
def v13 : VFn := ⟨2, [.tmp 4], (.seq (.region false 0 [0, 1] r13_0) (.seq (.seq (.region false 0 [0, 1, 5] r13_1) (.block 0 (.loop [0, 1, 5] b13_0))) (.seq (.region false 0 [4] r13_6) .ret)))⟩
/-! loop.example/g00461/impl.SymOf -/
def r14_0 : List VOper := [
  ⟨some 3, .box 0 (.t 1), none, []⟩,
  ⟨some 4, .move (.c (.d (.int .i64 0))), none, []⟩]
def r14_1 : List VOper := [
  ⟨some 5, .move (.t 0), none, []⟩,
  ⟨some 6, .makeFunc 18 [.t 3], none, []⟩,
  ⟨some 7, .call false (.c (.fn 19 [])) [.t 5, .t 6], none, []⟩,
  ⟨some 4, .move (.t 7), none, []⟩]
def v14 : VFn := ⟨2, [.tmp 4], (.seq (.region false 1 [0, 3] r14_0) (.seq (.region false 0 [4] r14_1) .ret))⟩
/-! loop.example/g00461/laws.eqSymS -/
def r15_0 : List VOper := [
  ⟨some 4, .move (.c (.d (.bool false))), none, []⟩]
def r15_1 : List VOper := [
  ⟨some 6, .move (.t 0), none, []⟩,
  ⟨some 7, .len false (.t 6), none, []⟩,
  ⟨some 8, .move (.t 1), none, []⟩,
  ⟨some 9, .len false (.t 8), none, []⟩,
  ⟨some 10, .bin .neq (.t 7) (.t 9), none, []⟩]
def r15_2 : List VOper := [
  ⟨some 4, .move (.c (.d (.bool false))), none, []⟩]
def r15_3 : List VOper := [
  ⟨some 5, .move (.c (.d (.int .i64 0))), none, []⟩]
def r15_4 : List VOper := [
  ⟨some 11, .move (.t 5), none, []⟩,
  ⟨some 12, .move (.t 0), none, []⟩,
  ⟨some 13, .len false (.t 12), none, []⟩,
  ⟨some 14, .bin .lss (.t 11) (.t 13), none, []⟩]
def r15_6 : List VOper := [
  ⟨some 17, .move (.t 0), none, []⟩,
  ⟨some 18, .move (.t 5), none, []⟩,
  ⟨some 19, .indexAddr 3 none (.t 17) (.t 18), none, [0, 1]⟩,
  ⟨some 20, .load true 3 (.t 19), none, [2]⟩,
  ⟨some 21, .move (.t 1), none, []⟩,
  ⟨some 22, .move (.t 5), none, []⟩,
  ⟨some 23, .indexAddr 3 none (.t 21) (.t 22), none, [4, 5]⟩,
  ⟨some 24, .load true 3 (.t 23), none, [6]⟩,
  ⟨some 25, .call true (.c (.fn 20 [])) [.t 20, .t 24], none, [3, 7]⟩,
  ⟨some 26, .not (.t 25), none, [8]⟩]
def r15_7 : List VOper := [
  ⟨some 4, .move (.c (.d (.bool false))), none, []⟩]
def r15_5 : List VOper := [
  ⟨some 15, .move (.t 5), none, []⟩,
  ⟨some 16, .bin .add (.t 15) (.c (.d (.int .i64 1))), none, []⟩,
  ⟨some 5, .move (.t 16), none, []⟩]
def b15_0 : VCode := (.seq (.seq (.region false 0 [0, 1, 5, 14] r15_4) (.cond (.t 14) .skip (.exit 0))) (.seq (.block 1 (.seq (.region true 0 [0, 1, 5, 26] r15_6) (.cond (.t 26) (.seq (.region false 0 [4] r15_7) .ret) .skip))) (.region false 0 [0, 1, 5] r15_5)))
def r15_8 : List VOper := [
  ⟨some 4, .move (.c (.d (.bool true))), none, []⟩]
def v15 : VFn := ⟨2, [.tmp 4], (.seq (.region false 0 [0, 1] r15_0) (.seq (.seq (.region false 0 [0, 1, 10] r15_1) (.cond (.t 10) (.seq (.region false 0 [4] r15_2) .ret) .skip)) (.seq (.seq (.region false 0 [0, 1, 5] r15_3) (.block 0 (.loop [0, 1, 5] b15_0))) (.seq (.region false 0 [4] r15_8) .ret))))⟩
/-! loop.example/g00461/laws.toSym -/
def r16_0 : List VOper := [
  ⟨some 1, .box 0 (.t 0), none, []⟩,
  ⟨some 2, .alloc 1 [.str ⟨#[]⟩, .int .i64 0, .bool false], none, []⟩]
def r16_1 : List VOper := [
  ⟨some 3, .alloc 0 [.str ⟨#[]⟩, .int .i64 0, .bool false], none, []⟩]
def r16_2 : List VOper := [
  ⟨some 4, .fieldAddr 0 (.t 1), none, []⟩,
  ⟨some 5, .load false 1 (.t 4), none, []⟩,
  ⟨some 6, .fieldAddr 0 (.t 3), none, []⟩,
  ⟨none, .store false 1 (.t 6) (.t 5), none, []⟩]
def r16_3 : List VOper := [
  ⟨some 7, .fieldAddr 1 (.t 1), none, []⟩,
  ⟨some 8, .load false 1 (.t 7), none, []⟩,
  ⟨some 9, .fieldAddr 1 (.t 3), none, []⟩,
  ⟨none, .store false 1 (.t 9) (.t 8), none, []⟩]
def r16_4 : List VOper := [
  ⟨some 10, .fieldAddr 2 (.t 1), none, []⟩,
  ⟨some 11, .load false 1 (.t 10), none, []⟩,
  ⟨some 12, .fieldAddr 2 (.t 3), none, []⟩,
  ⟨none, .store false 1 (.t 12) (.t 11), none, []⟩]
def r16_5 : List VOper := [
  ⟨some 13, .load true 3 (.t 3), none, []⟩,
  ⟨none, .store false 3 (.t 2) (.t 13), none, []⟩]
def v16 : VFn := ⟨1, [.cell 2 true 3], (.seq (.region false 2 [1, 2] r16_0) (.seq (.region false 1 [1, 2, 3] r16_1) (.seq (.region false 0 [1, 2, 3] r16_2) (.seq (.region false 0 [1, 2, 3] r16_3) (.seq (.region false 0 [2, 3] r16_4) (.seq (.region false 0 [2] r16_5) .ret))))))⟩
/-! loop.example/g00461/laws.szSym -/
def r17_0 : List VOper := [
  ⟨some 2, .box 0 (.t 0), none, []⟩,
  ⟨some 4, .move (.c (.d (.int .i64 0))), none, []⟩]
def r17_1 : List VOper := [
  ⟨some 5, .move (.t 1), none, []⟩,
  ⟨some 6, .fieldAddr 0 (.t 2), none, []⟩,
  ⟨some 7, .load false 1 (.t 6), none, []⟩,
  ⟨some 8, .len true (.t 7), none, []⟩,
  ⟨some 9, .bin .sub (.t 5) (.t 8), none, []⟩,
  ⟨some 1, .move (.t 9), none, []⟩]
def r17_2 : List VOper := [
  ⟨some 10, .move (.t 1), none, []⟩,
  ⟨some 11, .bin .lss (.t 10) (.c (.d (.int .i64 0))), none, []⟩]
def r17_3 : List VOper := [
  ⟨some 4, .move (.c (.d (.int .i64 (-1)))), none, []⟩]
def r17_4 : List VOper := [
  ⟨some 12, .move (.t 1), none, []⟩,
  ⟨some 4, .move (.t 12), none, []⟩]
def v17 : VFn := ⟨2, [.tmp 4], (.seq (.region false 1 [1, 2] r17_0) (.seq (.region false 0 [1] r17_1) (.seq (.seq (.region false 0 [1, 11] r17_2) (.cond (.t 11) (.seq (.region false 0 [4] r17_3) .ret) .skip)) (.seq (.region false 0 [4] r17_4) .ret))))⟩
/-! loop.example/g00461/impl.SymOf$1 -/
def r18_0 : List VOper := [
  ⟨some 2, .box 0 (.t 0), none, []⟩,
  ⟨some 3, .move (.c (.d (.bool false))), none, []⟩]
def r18_1 : List VOper := [
  ⟨some 4, .fieldAddr 0 (.t 2), none, []⟩,
  ⟨some 5, .load false 1 (.t 4), none, []⟩,
  ⟨some 6, .load false 1 (.t 1), none, []⟩,
  ⟨some 7, .bin .eql (.t 5) (.t 6), none, []⟩,
  ⟨some 3, .move (.t 7), none, []⟩]
def v18 : VFn := ⟨2, [.tmp 3], (.seq (.region false 1 [1, 2] r18_0) (.seq (.region false 0 [3] r18_1) .ret))⟩
/-! slices.IndexFunc[[]loop.example/g00461/impl.Sym,loop.example/g00461/impl.Sym] -/
def r19_0 : List VOper := [
  ⟨some 4, .move (.c (.d (.int .i64 0))), none, []⟩]
def r19_1 : List VOper := [
  ⟨some 6, .move (.t 0), none, []⟩,
  ⟨some 7, .len false (.t 6), none, []⟩,
  ⟨some 8, .move (.c (.d (.int .i64 0))), none, []⟩]
def r19_2 : List VOper := [
  ⟨some 9, .bin .lss (.t 8) (.t 7), none, []⟩]
def r19_3 : List VOper := [
  ⟨some 10, .move (.t 8), none, []⟩,
  ⟨some 5, .move (.t 10), none, []⟩]
def r19_4 : List VOper := [
  ⟨some 11, .move (.t 1), none, []⟩,
  ⟨some 12, .move (.t 0), none, []⟩,
  ⟨some 13, .move (.t 5), none, []⟩,
  ⟨some 14, .indexAddr 3 none (.t 12) (.t 13), none, []⟩,
  ⟨some 15, .load true 3 (.t 14), none, []⟩,
  ⟨some 16, .call false (.t 11) [.t 15], none, []⟩]
def r19_5 : List VOper := [
  ⟨some 17, .move (.t 5), none, []⟩,
  ⟨some 4, .move (.t 17), none, []⟩]
def r19_6 : List VOper := [
  ⟨some 18, .bin .add (.t 8) (.c (.d (.int .i64 1))), none, []⟩,
  ⟨some 8, .move (.t 18), none, []⟩]
def b19_0 : VCode := (.seq (.region false 0 [0, 1, 7, 8, 9] r19_2) (.seq (.cond (.t 9) .skip (.exit 0)) (.seq (.block 1 (.seq (.region false 0 [0, 1, 5, 7, 8] r19_3) (.seq (.region false 0 [0, 1, 5, 7, 8, 16] r19_4) (.cond (.t 16) (.seq (.region false 0 [4] r19_5) .ret) .skip)))) (.region false 0 [0, 1, 7, 8] r19_6))))
def r19_7 : List VOper := [
  ⟨some 4, .move (.c (.d (.int .i64 (-1)))), none, []⟩]
def v19 : VFn := ⟨2, [.tmp 4], (.seq (.region false 0 [0, 1] r19_0) (.seq (.seq (.region false 0 [0, 1, 7, 8] r19_1) (.block 0 (.loop [0, 1, 7, 8] b19_0))) (.seq (.region false 0 [4] r19_7) .ret)))⟩
/-! loop.example/g00461/laws.eqSym -/
def r20_0 : List VOper := [
  ⟨some 2, .box 0 (.t 0), none, []⟩,
  ⟨some 3, .box 1 (.t 1), none, []⟩,
  ⟨some 4, .move (.c (.d (.bool false))), none, []⟩]
def r20_1 : List VOper := [
  ⟨some 5, .fieldAddr 0 (.t 2), none, []⟩,
  ⟨some 6, .load false 1 (.t 5), none, []⟩,
  ⟨some 7, .fieldAddr 0 (.t 3), none, []⟩,
  ⟨some 8, .load false 1 (.t 7), none, []⟩,
  ⟨some 9, .bin .neq (.t 6) (.t 8), none, []⟩]
def r20_2 : List VOper := [
  ⟨some 4, .move (.c (.d (.bool false))), none, []⟩]
def r20_3 : List VOper := [
  ⟨some 10, .fieldAddr 1 (.t 2), none, []⟩,
  ⟨some 11, .load false 1 (.t 10), none, []⟩,
  ⟨some 12, .fieldAddr 1 (.t 3), none, []⟩,
  ⟨some 13, .load false 1 (.t 12), none, []⟩,
  ⟨some 14, .bin .neq (.t 11) (.t 13), none, []⟩]
def r20_4 : List VOper := [
  ⟨some 4, .move (.c (.d (.bool false))), none, []⟩]
def r20_5 : List VOper := [
  ⟨some 15, .fieldAddr 2 (.t 2), none, []⟩,
  ⟨some 16, .load false 1 (.t 15), none, []⟩,
  ⟨some 17, .fieldAddr 2 (.t 3), none, []⟩,
  ⟨some 18, .load false 1 (.t 17), none, []⟩,
  ⟨some 19, .eqB true (.t 16) (.t 18), none, []⟩]
def r20_6 : List VOper := [
  ⟨some 4, .move (.c (.d (.bool false))), none, []⟩]
def r20_7 : List VOper := [
  ⟨some 4, .move (.c (.d (.bool true))), none, []⟩]
def v20 : VFn := ⟨2, [.tmp 4], (.seq (.region false 2 [2, 3] r20_0) (.seq (.seq (.region false 0 [2, 3, 9] r20_1) (.cond (.t 9) (.seq (.region false 0 [4] r20_2) .ret) .skip)) (.seq (.seq (.region false 0 [2, 3, 14] r20_3) (.cond (.t 14) (.seq (.region false 0 [4] r20_4) .ret) .skip)) (.seq (.seq (.region false 0 [19] r20_5) (.cond (.t 19) (.seq (.region false 0 [4] r20_6) .ret) .skip)) (.seq (.region false 0 [4] r20_7) .ret)))))⟩
/-! loop.example/g00461/spec.Parts -/
def r22_0 : List VOper := [
  ⟨some 1, .box 0 (.t 0), none, []⟩,
  ⟨some 2, .move (.c (.d (.int .i64 0))), none, []⟩]
def r22_1 : List VOper := [
  ⟨some 3, .move (.c (.d (.int .i64 1))), none, []⟩]
def r22_2 : List VOper := [
  ⟨some 4, .move (.c (.d (.int .i64 0))), none, []⟩]
def r22_3 : List VOper := [
  ⟨some 5, .move (.t 4), none, []⟩,
  ⟨some 6, .fieldAddr 2 (.t 1), none, []⟩,
  ⟨some 7, .load false 1 (.t 6), none, []⟩,
  ⟨some 8, .len false (.t 7), none, []⟩,
  ⟨some 9, .bin .lss (.t 5) (.t 8), none, []⟩]
def r22_5 : List VOper := [
  ⟨some 12, .move (.t 3), none, []⟩,
  ⟨some 13, .fieldAddr 2 (.t 1), none, []⟩,
  ⟨some 14, .load false 1 (.t 13), none, []⟩,
  ⟨some 15, .move (.t 4), none, []⟩,
  ⟨some 16, .indexAddr 3 none (.t 14) (.t 15), none, []⟩,
  ⟨some 17, .load true 3 (.t 16), none, []⟩,
  ⟨some 18, .call true (.c (.fn 22 [])) [.t 17], none, []⟩,
  ⟨some 19, .bin .add (.t 12) (.t 18), none, []⟩,
  ⟨some 3, .move (.t 19), none, []⟩]
def r22_4 : List VOper := [
  ⟨some 10, .move (.t 4), none, []⟩,
  ⟨some 11, .bin .add (.t 10) (.c (.d (.int .i64 1))), none, []⟩,
  ⟨some 4, .move (.t 11), none, []⟩]
def b22_0 : VCode := (.seq (.seq (.region false 0 [1, 3, 4, 9] r22_3) (.cond (.t 9) .skip (.exit 0))) (.seq (.block 1 (.region false 0 [1, 3, 4] r22_5)) (.region false 0 [1, 3, 4] r22_4)))
def r22_6 : List VOper := [
  ⟨some 20, .move (.t 3), none, []⟩,
  ⟨some 2, .move (.t 20), none, []⟩]
def v22 : VFn := ⟨1, [.tmp 2], (.seq (.region false 1 [1] r22_0) (.seq (.region false 0 [1, 3] r22_1) (.seq (.seq (.region false 0 [1, 3, 4] r22_2) (.block 0 (.loop [1, 3, 4] b22_0))) (.seq (.region false 0 [2] r22_6) .ret))))⟩
/-! loop.example/g00461/impl.Parts -/
def r23_0 : List VOper := [
  ⟨some 1, .box 0 (.t 0), none, []⟩,
  ⟨some 2, .move (.c (.d (.int .i64 0))), none, []⟩]
def r23_1 : List VOper := [
  ⟨some 3, .alloc 0 [.int .i64 0], none, []⟩,
  ⟨none, .store false 1 (.t 3) (.c (.d (.int .i64 0))), none, []⟩]
def r23_2 : List VOper := [
  ⟨some 4, .load true 3 (.t 1), none, []⟩,
  ⟨some 5, .makeFunc 24 [.t 3], none, []⟩,
  ⟨some 6, .call false (.c (.fn 25 [])) [.t 4, .t 5], none, []⟩]
def r23_3 : List VOper := [
  ⟨some 7, .load false 1 (.t 3), none, []⟩,
  ⟨some 2, .move (.t 7), none, []⟩]
def v23 : VFn := ⟨1, [.tmp 2], (.seq (.region false 1 [1] r23_0) (.seq (.region false 1 [1, 3] r23_1) (.seq (.region false 0 [3] r23_2) (.seq (.region false 0 [2] r23_3) .ret))))⟩
/-! loop.example/g00461/impl.Parts$1 -/
def r24_0 : List VOper := [
  ⟨some 2, .box 0 (.t 0), none, []⟩]
def r24_1 : List VOper := [
  ⟨some 3, .load false 1 (.t 1), none, []⟩,
  ⟨some 4, .bin .add (.t 3) (.c (.d (.int .i64 1))), none, []⟩,
  ⟨none, .store false 1 (.t 1) (.t 4), none, []⟩]
def v24 : VFn := ⟨2, [], (.seq (.region false 1 [1] r24_0) (.region false 0 [] r24_1))⟩
/-! loop.example/g00461/impl.each -/
def r25_0 : List VOper := [
  ⟨some 2, .box 0 (.t 0), none, []⟩]
def r25_1 : List VOper := [
  ⟨some 6, .move (.t 1), none, []⟩,
  ⟨some 7, .load true 3 (.t 2), none, []⟩,
  ⟨some 8, .call false (.t 6) [.t 7], none, []⟩]
def r25_2 : List VOper := [
  ⟨some 9, .fieldAddr 2 (.t 2), none, []⟩,
  ⟨some 10, .load false 1 (.t 9), none, []⟩,
  ⟨some 11, .len false (.t 10), none, []⟩,
  ⟨some 12, .move (.c (.d (.int .i64 0))), none, []⟩]
def r25_3 : List VOper := [
  ⟨some 13, .bin .lss (.t 12) (.t 11), none, []⟩]
def r25_4 : List VOper := [
  ⟨some 14, .indexAddr 3 none (.t 10) (.t 12), none, []⟩,
  ⟨some 15, .load true 3 (.t 14), none, []⟩,
  ⟨some 5, .alloc 0 [.int .i64 0, .int .i64 0, .sl .nil []], none, []⟩,
  ⟨none, .store false 3 (.t 5) (.t 15), none, []⟩]
def r25_5 : List VOper := [
  ⟨some 16, .load true 3 (.t 5), none, []⟩,
  ⟨some 17, .move (.t 1), none, []⟩,
  ⟨some 18, .call false (.c (.fn 25 [])) [.t 16, .t 17], none, []⟩]
def r25_6 : List VOper := [
  ⟨some 19, .bin .add (.t 12) (.c (.d (.int .i64 1))), none, []⟩,
  ⟨some 12, .move (.t 19), none, []⟩]
def b25_0 : VCode := (.seq (.region false 0 [1, 10, 11, 12, 13] r25_3) (.seq (.cond (.t 13) .skip (.exit 0)) (.seq (.block 1 (.seq (.region false 1 [1, 5, 10, 11, 12] r25_4) (.region false 0 [1, 10, 11, 12] r25_5))) (.region false 0 [1, 10, 11, 12] r25_6))))
def v25 : VFn := ⟨2, [], (.seq (.region false 1 [1, 2] r25_0) (.seq (.region false 0 [1, 2] r25_1) (.seq (.region false 0 [1, 10, 11, 12] r25_2) (.block 0 (.loop [1, 10, 11, 12] b25_0)))))⟩
/-! loop.example/g00461/impl.isSym -/
def r29_0 : List VOper := [
  ⟨some 4, .move (.c (.d (.bool false))), none, []⟩]
def r29_1 : List VOper := [
  ⟨some 5, .move (.t 1), none, []⟩,
  ⟨some 6, .move (.t 0), none, []⟩,
  ⟨some 7, .len false (.t 6), none, []⟩,
  ⟨some 8, .bin .sub (.t 7) (.c (.d (.int .i64 1))), none, []⟩,
  ⟨some 9, .call true (.c (.fn 30 [])) [.t 5, .c (.d (.int .i64 0)), .t 8], none, []⟩,
  ⟨some 4, .move (.t 9), none, []⟩]
def v29 : VFn := ⟨2, [.tmp 4], (.seq (.region false 0 [0, 1] r29_0) (.seq (.region false 0 [4] r29_1) .ret))⟩
/-! loop.example/g00461/impl.from -/
def r30_0 : List VOper := [
  ⟨some 6, .move (.c (.d (.bool false))), none, []⟩]
def r30_1 : List VOper := [
  ⟨some 7, .move (.t 0), none, []⟩,
  ⟨some 8, .move (.t 1), none, []⟩,
  ⟨some 9, .bin .geq (.t 7) (.t 8), none, []⟩,
  ⟨some 10, .move (.t 9), none, []⟩,
  ⟨some 11, .move (.t 0), some (10, true), []⟩,
  ⟨some 12, .move (.t 2), some (10, true), []⟩,
  ⟨some 13, .bin .leq (.t 11) (.t 12), some (10, true), []⟩,
  ⟨some 14, .pick (.t 10) (.t 13) (.c (.d (.bool false))), none, []⟩,
  ⟨some 6, .move (.t 14), none, []⟩]
def v30 : VFn := ⟨3, [.tmp 6], (.seq (.region false 0 [0, 1, 2] r30_0) (.seq (.region false 0 [6] r30_1) .ret))⟩
/-! loop.example/g00461/spec.l1In -/
def r31_0 : List VOper := [
  ⟨some 6, .move (.c (.d (.bool false))), none, []⟩]
def r31_1 : List VOper := [
  ⟨some 7, .move (.t 0), none, []⟩,
  ⟨some 8, .move (.t 1), none, []⟩,
  ⟨some 9, .bin .geq (.t 7) (.t 8), none, []⟩,
  ⟨some 10, .move (.t 9), none, []⟩,
  ⟨some 11, .move (.t 0), some (10, true), []⟩,
  ⟨some 12, .move (.t 2), some (10, true), []⟩,
  ⟨some 13, .bin .leq (.t 11) (.t 12), some (10, true), []⟩,
  ⟨some 14, .pick (.t 10) (.t 13) (.c (.d (.bool false))), none, []⟩,
  ⟨some 6, .move (.t 14), none, []⟩]
def v31 : VFn := ⟨3, [.tmp 6], (.seq (.region false 0 [0, 1, 2] r31_0) (.seq (.region false 0 [6] r31_1) .ret))⟩
/-! loop.example/g00461/spec.Blind -/
def r33_0 : List VOper := [
  ⟨some 4, .move (.c (.d (.bool false))), none, []⟩]
def r33_1 : List VOper := [
  ⟨some 5, .move (.t 1), none, []⟩,
  ⟨some 6, .move (.t 0), none, []⟩,
  ⟨some 7, .len false (.t 6), none, []⟩,
  ⟨some 8, .bin .sub (.t 7) (.c (.d (.int .i64 1))), none, []⟩,
  ⟨some 9, .call true (.c (.fn 31 [])) [.t 5, .c (.d (.int .i64 0)), .t 8], none, []⟩,
  ⟨some 10, .move (.t 9), none, []⟩,
  ⟨some 11, .move (.t 0), some (10, true), []⟩,
  ⟨some 12, .move (.t 1), some (10, true), []⟩,
  ⟨some 13, .indexAddr 3 none (.t 11) (.t 12), some (10, true), []⟩,
  ⟨some 14, .fieldAddr 2 (.t 13), some (10, true), []⟩,
  ⟨some 15, .load false 1 (.t 14), some (10, true), []⟩,
  ⟨some 16, .pick (.t 10) (.t 15) (.c (.d (.bool false))), none, []⟩,
  ⟨some 4, .move (.t 16), none, []⟩]
def v33 : VFn := ⟨2, [.tmp 4], (.seq (.region false 0 [0, 1] r33_0) (.seq (.region false 0 [4] r33_1) .ret))⟩
/-! loop.example/g00461/impl.Blind -/
def r34_0 : List VOper := [
  ⟨some 4, .move (.c (.d (.bool false))), none, []⟩]
def r34_1 : List VOper := [
  ⟨some 5, .move (.t 0), none, []⟩,
  ⟨some 6, .move (.t 1), none, []⟩,
  ⟨some 7, .call true (.c (.fn 29 [])) [.t 5, .t 6], none, []⟩,
  ⟨some 8, .move (.t 7), none, []⟩,
  ⟨some 9, .move (.t 0), some (8, true), []⟩,
  ⟨some 10, .move (.t 1), some (8, true), []⟩,
  ⟨some 11, .indexAddr 3 none (.t 9) (.t 10), some (8, true), []⟩,
  ⟨some 12, .fieldAddr 2 (.t 11), some (8, true), []⟩,
  ⟨some 13, .load false 1 (.t 12), some (8, true), []⟩,
  ⟨some 14, .pick (.t 8) (.t 13) (.c (.d (.bool false))), none, []⟩,
  ⟨some 4, .move (.t 14), none, []⟩]
def v34 : VFn := ⟨2, [.tmp 4], (.seq (.region false 0 [0, 1] r34_0) (.seq (.region false 0 [4] r34_1) .ret))⟩
/-! slices.IndexFunc[[]int,int] -/
def r47_0 : List VOper := [
  ⟨some 4, .move (.c (.d (.int .i64 0))), none, []⟩]
def r47_1 : List VOper := [
  ⟨some 6, .move (.t 0), none, []⟩,
  ⟨some 7, .len false (.t 6), none, []⟩,
  ⟨some 8, .move (.c (.d (.int .i64 0))), none, []⟩]
def r47_2 : List VOper := [
  ⟨some 9, .bin .lss (.t 8) (.t 7), none, []⟩]
def r47_3 : List VOper := [
  ⟨some 10, .move (.t 8), none, []⟩,
  ⟨some 5, .move (.t 10), none, []⟩]
def r47_4 : List VOper := [
  ⟨some 11, .move (.t 1), none, []⟩,
  ⟨some 12, .move (.t 0), none, []⟩,
  ⟨some 13, .move (.t 5), none, []⟩,
  ⟨some 14, .indexAddr 1 none (.t 12) (.t 13), none, []⟩,
  ⟨some 15, .load false 1 (.t 14), none, []⟩,
  ⟨some 16, .call false (.t 11) [.t 15], none, []⟩]
def r47_5 : List VOper := [
  ⟨some 17, .move (.t 5), none, []⟩,
  ⟨some 4, .move (.t 17), none, []⟩]
def r47_6 : List VOper := [
  ⟨some 18, .bin .add (.t 8) (.c (.d (.int .i64 1))), none, []⟩,
  ⟨some 8, .move (.t 18), none, []⟩]
def b47_0 : VCode := (.seq (.region false 0 [0, 1, 7, 8, 9] r47_2) (.seq (.cond (.t 9) .skip (.exit 0)) (.seq (.block 1 (.seq (.region false 0 [0, 1, 5, 7, 8] r47_3) (.seq (.region false 0 [0, 1, 5, 7, 8, 16] r47_4) (.cond (.t 16) (.seq (.region false 0 [4] r47_5) .ret) .skip)))) (.region false 0 [0, 1, 7, 8] r47_6))))
def r47_7 : List VOper := [
  ⟨some 4, .move (.c (.d (.int .i64 (-1)))), none, []⟩]
def v47 : VFn := ⟨2, [.tmp 4], (.seq (.region false 0 [0, 1] r47_0) (.seq (.seq (.region false 0 [0, 1, 7, 8] r47_1) (.block 0 (.loop [0, 1, 7, 8] b47_0))) (.seq (.region false 0 [4] r47_7) .ret)))⟩
/-! loop.example/g00461/spec.NumIn -/
def r53_0 : List VOper := [
  ⟨some 4, .move (.c (.d (.bool false))), none, []⟩]
def r53_1 : List VOper := [
  ⟨some 5, .move (.c (.d (.int .i64 0))), none, []⟩]
def r53_2 : List VOper := [
  ⟨some 6, .move (.t 5), none, []⟩,
  ⟨some 7, .move (.t 0), none, []⟩,
  ⟨some 8, .len false (.t 7), none, []⟩,
  ⟨some 9, .bin .lss (.t 6) (.t 8), none, []⟩]
def r53_4 : List VOper := [
  ⟨some 12, .move (.t 0), none, []⟩,
  ⟨some 13, .move (.t 5), none, []⟩,
  ⟨some 14, .indexAddr 1 none (.t 12) (.t 13), none, []⟩,
  ⟨some 15, .load false 1 (.t 14), none, []⟩,
  ⟨some 16, .move (.t 1), none, []⟩,
  ⟨some 17, .bin .eql (.t 15) (.t 16), none, []⟩]
def r53_5 : List VOper := [
  ⟨some 4, .move (.c (.d (.bool true))), none, []⟩]
def r53_3 : List VOper := [
  ⟨some 10, .move (.t 5), none, []⟩,
  ⟨some 11, .bin .add (.t 10) (.c (.d (.int .i64 1))), none, []⟩,
  ⟨some 5, .move (.t 11), none, []⟩]
def b53_0 : VCode := (.seq (.seq (.region false 0 [0, 1, 5, 9] r53_2) (.cond (.t 9) .skip (.exit 0))) (.seq (.block 1 (.seq (.region false 0 [0, 1, 5, 17] r53_4) (.cond (.t 17) (.seq (.region false 0 [4] r53_5) .ret) .skip))) (.region false 0 [0, 1, 5] r53_3)))
def r53_6 : List VOper := [
  ⟨some 4, .move (.c (.d (.bool false))), none, []⟩]
def v53 : VFn := ⟨2, [.tmp 4], (.seq (.region false 0 [0, 1] r53_0) (.seq (.seq (.region false 0 [0, 1, 5] r53_1) (.block 0 (.loop [0, 1, 5] b53_0))) (.seq (.region false 0 [4] r53_6) .ret)))⟩
/-! loop.example/g00461/impl.NumIn -/
def r54_0 : List VOper := [
  ⟨some 4, .move (.c (.d (.bool false))), none, []⟩]
def r54_1 : List VOper := [
  ⟨some 5, .move (.t 0), none, []⟩,
  ⟨some 6, .move (.t 1), none, []⟩,
  ⟨some 7, .call true (.c (.fn 55 [])) [.t 5, .t 6], none, []⟩,
  ⟨some 4, .move (.t 7), none, []⟩]
def v54 : VFn := ⟨2, [.tmp 4], (.seq (.region false 0 [0, 1] r54_0) (.seq (.region false 0 [4] r54_1) .ret))⟩
/-! slices.Contains[[]int,int] -/
def r55_0 : List VOper := [
  ⟨some 4, .move (.c (.d (.bool false))), none, []⟩]
def r55_1 : List VOper := [
  ⟨some 5, .move (.t 0), none, []⟩,
  ⟨some 6, .move (.t 1), none, []⟩,
  ⟨some 7, .call true (.c (.fn 56 [])) [.t 5, .t 6], none, []⟩,
  ⟨some 8, .bin .geq (.t 7) (.c (.d (.int .i64 0))), none, []⟩,
  ⟨some 4, .move (.t 8), none, []⟩]
def v55 : VFn := ⟨2, [.tmp 4], (.seq (.region false 0 [0, 1] r55_0) (.seq (.region false 0 [4] r55_1) .ret))⟩
/-! slices.Index[[]int,int] -/
def r56_0 : List VOper := [
  ⟨some 4, .move (.c (.d (.int .i64 0))), none, []⟩]
def r56_1 : List VOper := [
  ⟨some 6, .move (.t 0), none, []⟩,
  ⟨some 7, .len false (.t 6), none, []⟩,
  ⟨some 8, .move (.c (.d (.int .i64 0))), none, []⟩]
def r56_2 : List VOper := [
  ⟨some 9, .bin .lss (.t 8) (.t 7), none, []⟩]
def r56_3 : List VOper := [
  ⟨some 10, .move (.t 8), none, []⟩,
  ⟨some 5, .move (.t 10), none, []⟩]
def r56_4 : List VOper := [
  ⟨some 11, .move (.t 1), none, []⟩,
  ⟨some 12, .move (.t 0), none, []⟩,
  ⟨some 13, .move (.t 5), none, []⟩,
  ⟨some 14, .indexAddr 1 none (.t 12) (.t 13), none, []⟩,
  ⟨some 15, .load false 1 (.t 14), none, []⟩,
  ⟨some 16, .bin .eql (.t 11) (.t 15), none, []⟩]
def r56_5 : List VOper := [
  ⟨some 17, .move (.t 5), none, []⟩,
  ⟨some 4, .move (.t 17), none, []⟩]
def r56_6 : List VOper := [
  ⟨some 18, .bin .add (.t 8) (.c (.d (.int .i64 1))), none, []⟩,
  ⟨some 8, .move (.t 18), none, []⟩]
def b56_0 : VCode := (.seq (.region false 0 [0, 1, 7, 8, 9] r56_2) (.seq (.cond (.t 9) .skip (.exit 0)) (.seq (.block 1 (.seq (.region false 0 [0, 1, 5, 7, 8] r56_3) (.seq (.region false 0 [0, 1, 5, 7, 8, 16] r56_4) (.cond (.t 16) (.seq (.region false 0 [4] r56_5) .ret) .skip)))) (.region false 0 [0, 1, 7, 8] r56_6))))
def r56_7 : List VOper := [
  ⟨some 4, .move (.c (.d (.int .i64 (-1)))), none, []⟩]
def v56 : VFn := ⟨2, [.tmp 4], (.seq (.region false 0 [0, 1] r56_0) (.seq (.seq (.region false 0 [0, 1, 7, 8] r56_1) (.block 0 (.loop [0, 1, 7, 8] b56_0))) (.seq (.region false 0 [4] r56_7) .ret)))⟩
/-! loop.example/g00461/spec.NameOk -/
def r59_0 : List VOper := [
  ⟨some 2, .move (.c (.d (.bool false))), none, []⟩]
def r59_1 : List VOper := [
  ⟨some 3, .move (.c (.d (.int .i64 0))), none, []⟩]
def r59_2 : List VOper := [
  ⟨some 4, .move (.t 3), none, []⟩,
  ⟨some 5, .move (.t 0), none, []⟩,
  ⟨some 6, .len true (.t 5), none, []⟩,
  ⟨some 7, .bin .lss (.t 4) (.t 6), none, []⟩]
def r59_4 : List VOper := [
  ⟨some 10, .move (.t 0), none, []⟩,
  ⟨some 11, .move (.t 3), none, []⟩,
  ⟨some 12, .index (.t 10) (.t 11), none, []⟩,
  ⟨some 13, .bin .geq (.t 12) (.c (.d (.int .u8 97))), none, []⟩,
  ⟨some 14, .move (.t 13), none, []⟩,
  ⟨some 15, .move (.t 0), some (14, true), []⟩,
  ⟨some 16, .move (.t 3), some (14, true), []⟩,
  ⟨some 17, .index (.t 15) (.t 16), some (14, true), []⟩,
  ⟨some 18, .bin .leq (.t 17) (.c (.d (.int .u8 122))), some (14, true), []⟩,
  ⟨some 19, .pick (.t 14) (.t 18) (.c (.d (.bool false))), none, []⟩,
  ⟨some 20, .move (.t 19), none, []⟩,
  ⟨some 21, .move (.t 3), some (20, false), []⟩,
  ⟨some 22, .bin .gtr (.t 21) (.c (.d (.int .i64 0))), some (20, false), []⟩,
  ⟨some 23, .move (.t 22), some (20, false), []⟩,
  ⟨some 24, .move (.t 0), some (23, true), []⟩,
  ⟨some 25, .move (.t 3), some (23, true), []⟩,
  ⟨some 26, .index (.t 24) (.t 25), some (23, true), []⟩,
  ⟨some 27, .bin .geq (.t 26) (.c (.d (.int .u8 48))), some (23, true), []⟩,
  ⟨some 28, .pick (.t 23) (.t 27) (.c (.d (.bool false))), some (20, false), []⟩,
  ⟨some 29, .move (.t 28), some (20, false), []⟩,
  ⟨some 30, .move (.t 0), some (29, true), []⟩,
  ⟨some 31, .move (.t 3), some (29, true), []⟩,
  ⟨some 32, .index (.t 30) (.t 31), some (29, true), []⟩,
  ⟨some 33, .bin .leq (.t 32) (.c (.d (.int .u8 57))), some (29, true), []⟩,
  ⟨some 34, .pick (.t 29) (.t 33) (.c (.d (.bool false))), some (20, false), []⟩,
  ⟨some 35, .pick (.t 20) (.c (.d (.bool true))) (.t 34), none, []⟩,
  ⟨some 36, .not (.t 35), none, []⟩]
def r59_5 : List VOper := [
  ⟨some 2, .move (.c (.d (.bool false))), none, []⟩]
def r59_3 : List VOper := [
  ⟨some 8, .move (.t 3), none, []⟩,
  ⟨some 9, .bin .add (.t 8) (.c (.d (.int .i64 1))), none, []⟩,
  ⟨some 3, .move (.t 9), none, []⟩]
def b59_0 : VCode := (.seq (.seq (.region false 0 [0, 3, 7] r59_2) (.cond (.t 7) .skip (.exit 0))) (.seq (.block 1 (.seq (.region false 0 [0, 3, 36] r59_4) (.cond (.t 36) (.seq (.region false 0 [2] r59_5) .ret) .skip))) (.region false 0 [0, 3] r59_3)))
def r59_6 : List VOper := [
  ⟨some 37, .move (.t 0), none, []⟩,
  ⟨some 38, .len true (.t 37), none, []⟩,
  ⟨some 39, .call true (.c (.fn 31 [])) [.t 38, .c (.d (.int .i64 1)), .c (.d (.int .i64 8))], none, []⟩,
  ⟨some 2, .move (.t 39), none, []⟩]
def v59 : VFn := ⟨1, [.tmp 2], (.seq (.region false 0 [0] r59_0) (.seq (.seq (.region false 0 [0, 3] r59_1) (.block 0 (.loop [0, 3] b59_0))) (.seq (.region false 0 [2] r59_6) .ret)))⟩
/-! loop.example/g00461/impl.NameOk -/
def r60_0 : List VOper := [
  ⟨some 2, .move (.c (.d (.bool false))), none, []⟩]
def r60_1 : List VOper := [
  ⟨some 4, .move (.t 0), none, []⟩,
  ⟨some 5, .len true (.t 4), none, []⟩,
  ⟨some 6, .move (.c (.d (.int .i64 0))), none, []⟩]
def r60_2 : List VOper := [
  ⟨some 7, .bin .lss (.t 6) (.t 5), none, []⟩]
def r60_3 : List VOper := [
  ⟨some 8, .move (.t 6), none, []⟩,
  ⟨some 3, .move (.t 8), none, []⟩]
def r60_4 : List VOper := [
  ⟨some 9, .move (.t 0), none, []⟩,
  ⟨some 10, .move (.t 3), none, []⟩,
  ⟨some 11, .index (.t 9) (.t 10), none, []⟩,
  ⟨some 12, .call true (.c (.fn 61 [])) [.t 11], none, []⟩,
  ⟨some 13, .not (.t 12), none, []⟩,
  ⟨some 14, .move (.t 13), none, []⟩,
  ⟨some 15, .move (.t 0), some (14, true), []⟩,
  ⟨some 16, .move (.t 3), some (14, true), []⟩,
  ⟨some 17, .index (.t 15) (.t 16), some (14, true), []⟩,
  ⟨some 18, .call true (.c (.fn 62 [])) [.t 17], some (14, true), []⟩,
  ⟨some 19, .not (.t 18), some (14, true), []⟩,
  ⟨some 20, .pick (.t 14) (.t 19) (.c (.d (.bool false))), none, []⟩]
def r60_5 : List VOper := [
  ⟨some 2, .move (.c (.d (.bool false))), none, []⟩]
def r60_6 : List VOper := [
  ⟨some 21, .bin .add (.t 6) (.c (.d (.int .i64 1))), none, []⟩,
  ⟨some 6, .move (.t 21), none, []⟩]
def b60_0 : VCode := (.seq (.region false 0 [0, 5, 6, 7] r60_2) (.seq (.cond (.t 7) .skip (.exit 0)) (.seq (.block 1 (.seq (.region false 0 [0, 3, 5, 6] r60_3) (.seq (.region false 0 [0, 5, 6, 20] r60_4) (.cond (.t 20) (.seq (.region false 0 [2] r60_5) .ret) .skip)))) (.region false 0 [0, 5, 6] r60_6))))
def r60_7 : List VOper := [
  ⟨some 22, .move (.t 0), none, []⟩,
  ⟨some 23, .len true (.t 22), none, []⟩,
  ⟨some 24, .call true (.c (.fn 30 [])) [.t 23, .c (.d (.int .i64 1)), .c (.d (.int .i64 8))], none, []⟩,
  ⟨some 25, .move (.t 24), none, []⟩,
  ⟨some 26, .move (.t 0), some (25, true), []⟩,
  ⟨some 27, .index (.t 26) (.c (.d (.int .i64 0))), some (25, true), []⟩,
  ⟨some 28, .call true (.c (.fn 61 [])) [.t 27], some (25, true), []⟩,
  ⟨some 29, .pick (.t 25) (.t 28) (.c (.d (.bool false))), none, []⟩,
  ⟨some 2, .move (.t 29), none, []⟩]
def v60 : VFn := ⟨1, [.tmp 2], (.seq (.region false 0 [0] r60_0) (.seq (.seq (.region false 0 [0, 5, 6] r60_1) (.block 0 (.loop [0, 5, 6] b60_0))) (.seq (.region false 0 [2] r60_7) .ret)))⟩
/-! loop.example/g00461/impl.isSmall -/
def r61_0 : List VOper := [
  ⟨some 2, .move (.c (.d (.bool false))), none, []⟩]
def r61_1 : List VOper := [
  ⟨some 3, .move (.t 0), none, []⟩,
  ⟨some 4, .bin .geq (.t 3) (.c (.d (.int .u8 97))), none, []⟩,
  ⟨some 5, .move (.t 4), none, []⟩,
  ⟨some 6, .move (.t 0), some (5, true), []⟩,
  ⟨some 7, .bin .leq (.t 6) (.c (.d (.int .u8 122))), some (5, true), []⟩,
  ⟨some 8, .pick (.t 5) (.t 7) (.c (.d (.bool false))), none, []⟩,
  ⟨some 2, .move (.t 8), none, []⟩]
def v61 : VFn := ⟨1, [.tmp 2], (.seq (.region false 0 [0] r61_0) (.seq (.region false 0 [2] r61_1) .ret))⟩
/-! loop.example/g00461/impl.isDigit -/
def r62_0 : List VOper := [
  ⟨some 2, .move (.c (.d (.bool false))), none, []⟩]
def r62_1 : List VOper := [
  ⟨some 3, .move (.t 0), none, []⟩,
  ⟨some 4, .bin .geq (.t 3) (.c (.d (.int .u8 48))), none, []⟩,
  ⟨some 5, .move (.t 4), none, []⟩,
  ⟨some 6, .move (.t 0), some (5, true), []⟩,
  ⟨some 7, .bin .leq (.t 6) (.c (.d (.int .u8 57))), some (5, true), []⟩,
  ⟨some 8, .pick (.t 5) (.t 7) (.c (.d (.bool false))), none, []⟩,
  ⟨some 2, .move (.t 8), none, []⟩]
def v62 : VFn := ⟨1, [.tmp 2], (.seq (.region false 0 [0] r62_0) (.seq (.region false 0 [2] r62_1) .ret))⟩
/-! loop.example/g00461/impl.TermOk -/
def r70_0 : List VOper := [
  ⟨some 3, .box 0 (.t 1), none, []⟩,
  ⟨some 4, .move (.c (.d (.bool false))), none, []⟩]
def r70_1 : List VOper := [
  ⟨some 5, .move (.t 0), none, []⟩,
  ⟨some 6, .call true (.c (.fn 77 [])) [.t 5], none, []⟩,
  ⟨some 7, .move (.t 6), none, []⟩,
  ⟨some 8, .load true 3 (.t 3), some (7, true), []⟩,
  ⟨some 9, .call true (.c (.fn 23 [])) [.t 8], some (7, true), []⟩,
  ⟨some 10, .bin .leq (.t 9) (.c (.d (.int .i64 60))), some (7, true), []⟩,
  ⟨some 11, .pick (.t 7) (.t 10) (.c (.d (.bool false))), none, []⟩,
  ⟨some 12, .move (.t 11), none, []⟩,
  ⟨some 13, .move (.t 0), some (12, true), []⟩,
  ⟨some 14, .load true 3 (.t 3), some (12, true), []⟩,
  ⟨some 15, .call true (.c (.fn 78 [])) [.t 13, .t 14], some (12, true), []⟩,
  ⟨some 16, .pick (.t 12) (.t 15) (.c (.d (.bool false))), none, []⟩,
  ⟨some 4, .move (.t 16), none, []⟩]
def v70 : VFn := ⟨2, [.tmp 4], (.seq (.region false 1 [0, 3] r70_0) (.seq (.region false 0 [4] r70_1) .ret))⟩
/-! loop.example/g00461/impl.Count -/
def r73_0 : List VOper := [
  ⟨some 2, .box 0 (.t 0), none, []⟩,
  ⟨some 3, .box 1 (.t 1), none, []⟩,
  ⟨some 4, .move (.c (.d (.int .i64 0))), none, []⟩]
def r73_1 : List VOper := [
  ⟨some 5, .alloc 0 [.int .i64 0], none, []⟩,
  ⟨none, .store false 1 (.t 5) (.c (.d (.int .i64 0))), none, []⟩]
def r73_2 : List VOper := [
  ⟨some 6, .load true 3 (.t 2), none, []⟩,
  ⟨some 7, .makeFunc 74 [.t 3, .t 5], none, []⟩,
  ⟨some 8, .call false (.c (.fn 25 [])) [.t 6, .t 7], none, []⟩]
def r73_3 : List VOper := [
  ⟨some 9, .load false 1 (.t 5), none, []⟩,
  ⟨some 4, .move (.t 9), none, []⟩]
def v73 : VFn := ⟨2, [.tmp 4], (.seq (.region false 2 [2, 3] r73_0) (.seq (.region false 1 [2, 3, 5] r73_1) (.seq (.region false 0 [5] r73_2) (.seq (.region false 0 [4] r73_3) .ret))))⟩
/-! loop.example/g00461/impl.Count$1 -/
def r74_0 : List VOper := [
  ⟨some 3, .box 0 (.t 0), none, []⟩]
def r74_1 : List VOper := [
  ⟨some 4, .load true 3 (.t 3), none, []⟩,
  ⟨some 5, .call true (.c (.fn 75 [])) [.t 4], none, []⟩,
  ⟨some 6, .move (.t 5), none, []⟩,
  ⟨some 7, .fieldAddr 1 (.t 3), some (6, true), []⟩,
  ⟨some 8, .load false 1 (.t 7), some (6, true), []⟩,
  ⟨some 9, .load false 1 (.t 1), some (6, true), []⟩,
  ⟨some 10, .bin .eql (.t 8) (.t 9), some (6, true), []⟩,
  ⟨some 11, .pick (.t 6) (.t 10) (.c (.d (.bool false))), none, []⟩]
def r74_2 : List VOper := [
  ⟨some 12, .load false 1 (.t 2), none, []⟩,
  ⟨some 13, .bin .add (.t 12) (.c (.d (.int .i64 1))), none, []⟩,
  ⟨none, .store false 1 (.t 2) (.t 13), none, []⟩]
def v74 : VFn := ⟨3, [], (.seq (.region false 1 [1, 2, 3] r74_0) (.seq (.region false 0 [2, 11] r74_1) (.cond (.t 11) (.region false 0 [] r74_2) .skip)))⟩
/-! loop.example/g00461/impl.isVar -/
def r75_0 : List VOper := [
  ⟨some 1, .box 0 (.t 0), none, []⟩,
  ⟨some 2, .move (.c (.d (.bool false))), none, []⟩]
def r75_1 : List VOper := [
  ⟨some 3, .fieldAddr 0 (.t 1), none, []⟩,
  ⟨some 4, .load false 1 (.t 3), none, []⟩,
  ⟨some 5, .bin .eql (.t 4) (.c (.d (.int .i64 (-1)))), none, []⟩,
  ⟨some 2, .move (.t 5), none, []⟩]
def v75 : VFn := ⟨1, [.tmp 2], (.seq (.region false 1 [1] r75_0) (.seq (.region false 0 [2] r75_1) .ret))⟩
/-! loop.example/g00461/impl.SigOk -/
def r77_0 : List VOper := [
  ⟨some 2, .move (.c (.d (.bool false))), none, []⟩]
def r77_1 : List VOper := [
  ⟨some 5, .move (.t 0), none, []⟩,
  ⟨some 6, .len false (.t 5), none, []⟩,
  ⟨some 7, .move (.c (.d (.int .i64 0))), none, []⟩]
def r77_2 : List VOper := [
  ⟨some 8, .bin .lss (.t 7) (.t 6), none, []⟩]
def r77_3 : List VOper := [
  ⟨some 9, .move (.t 7), none, []⟩,
  ⟨some 10, .indexAddr 3 none (.t 5) (.t 7), none, []⟩,
  ⟨some 11, .load true 3 (.t 10), none, []⟩,
  ⟨some 4, .alloc 0 [.str ⟨#[]⟩, .int .i64 0, .bool false], none, []⟩,
  ⟨some 3, .move (.t 9), none, []⟩,
  ⟨none, .store false 3 (.t 4) (.t 11), none, []⟩]
def r77_4 : List VOper := [
  ⟨some 12, .fieldAddr 0 (.t 4), none, []⟩,
  ⟨some 13, .load false 1 (.t 12), none, []⟩,
  ⟨some 14, .call true (.c (.fn 60 [])) [.t 13], none, []⟩,
  ⟨some 15, .not (.t 14), none, []⟩,
  ⟨some 16, .move (.t 15), none, []⟩,
  ⟨some 17, .move (.t 0), some (16, false), []⟩,
  ⟨some 18, .fieldAddr 0 (.t 4), some (16, false), []⟩,
  ⟨some 19, .load false 1 (.t 18), some (16, false), []⟩,
  ⟨some 20, .call true (.c (.fn 14 [])) [.t 17, .t 19], some (16, false), []⟩,
  ⟨some 21, .move (.t 3), some (16, false), []⟩,
  ⟨some 22, .bin .neq (.t 20) (.t 21), some (16, false), []⟩,
  ⟨some 23, .pick (.t 16) (.c (.d (.bool true))) (.t 22), none, []⟩,
  ⟨some 24, .move (.t 23), none, []⟩,
  ⟨some 25, .fieldAddr 1 (.t 4), some (24, false), []⟩,
  ⟨some 26, .load false 1 (.t 25), some (24, false), []⟩,
  ⟨some 27, .call true (.c (.fn 30 [])) [.t 26, .c (.d (.int .i64 0)), .c (.d (.int .i64 3))], some (24, false), []⟩,
  ⟨some 28, .not (.t 27), some (24, false), []⟩,
  ⟨some 29, .pick (.t 24) (.c (.d (.bool true))) (.t 28), none, []⟩,
  ⟨some 30, .move (.t 29), none, []⟩,
  ⟨some 31, .fieldAddr 2 (.t 4), some (30, false), []⟩,
  ⟨some 32, .load false 1 (.t 31), some (30, false), []⟩,
  ⟨some 33, .move (.t 32), some (30, false), []⟩,
  ⟨some 34, .fieldAddr 1 (.t 4), some (33, true), []⟩,
  ⟨some 35, .load false 1 (.t 34), some (33, true), []⟩,
  ⟨some 36, .bin .neq (.t 35) (.c (.d (.int .i64 2))), some (33, true), []⟩,
  ⟨some 37, .pick (.t 33) (.t 36) (.c (.d (.bool false))), some (30, false), []⟩,
  ⟨some 38, .pick (.t 30) (.c (.d (.bool true))) (.t 37), none, []⟩]
def r77_5 : List VOper := [
  ⟨some 2, .move (.c (.d (.bool false))), none, []⟩]
def r77_6 : List VOper := [
  ⟨some 39, .bin .add (.t 7) (.c (.d (.int .i64 1))), none, []⟩,
  ⟨some 7, .move (.t 39), none, []⟩]
def b77_0 : VCode := (.seq (.region false 0 [0, 5, 6, 7, 8] r77_2) (.seq (.cond (.t 8) .skip (.exit 0)) (.seq (.block 1 (.seq (.region false 1 [0, 3, 4, 5, 6, 7] r77_3) (.seq (.region false 0 [0, 5, 6, 7, 38] r77_4) (.cond (.t 38) (.seq (.region false 0 [2] r77_5) .ret) .skip)))) (.region false 0 [0, 5, 6, 7] r77_6))))
def r77_7 : List VOper := [
  ⟨some 40, .move (.t 0), none, []⟩,
  ⟨some 41, .len false (.t 40), none, []⟩,
  ⟨some 42, .call true (.c (.fn 30 [])) [.t 41, .c (.d (.int .i64 1)), .c (.d (.int .i64 8))], none, []⟩,
  ⟨some 43, .move (.t 42), none, []⟩,
  ⟨some 44, .move (.t 0), some (43, true), []⟩,
  ⟨some 45, .indexAddr 3 none (.t 44) (.c (.d (.int .i64 0))), some (43, true), []⟩,
  ⟨some 46, .fieldAddr 0 (.t 45), some (43, true), []⟩,
  ⟨some 47, .load false 1 (.t 46), some (43, true), []⟩,
  ⟨some 48, .bin .eql (.t 47) (.c (.d (.str ⟨#[116, 116]⟩))), some (43, true), []⟩,
  ⟨some 49, .pick (.t 43) (.t 48) (.c (.d (.bool false))), none, []⟩,
  ⟨some 50, .move (.t 49), none, []⟩,
  ⟨some 51, .move (.t 0), some (50, true), []⟩,
  ⟨some 52, .indexAddr 3 none (.t 51) (.c (.d (.int .i64 0))), some (50, true), []⟩,
  ⟨some 53, .fieldAddr 1 (.t 52), some (50, true), []⟩,
  ⟨some 54, .load false 1 (.t 53), some (50, true), []⟩,
  ⟨some 55, .bin .eql (.t 54) (.c (.d (.int .i64 0))), some (50, true), []⟩,
  ⟨some 56, .pick (.t 50) (.t 55) (.c (.d (.bool false))), none, []⟩,
  ⟨some 2, .move (.t 56), none, []⟩]
def v77 : VFn := ⟨1, [.tmp 2], (.seq (.region false 0 [0] r77_0) (.seq (.seq (.region false 0 [0, 5, 6, 7] r77_1) (.block 0 (.loop [0, 5, 6, 7] b77_0))) (.seq (.region false 0 [2] r77_7) .ret)))⟩
/-! loop.example/g00461/impl.formOk -/
def r78_0 : List VOper := [
  ⟨some 3, .box 0 (.t 1), none, []⟩,
  ⟨some 4, .move (.c (.d (.bool false))), none, []⟩]
def r78_1 : List VOper := [
  ⟨some 7, .load true 3 (.t 3), none, []⟩,
  ⟨some 8, .call true (.c (.fn 75 [])) [.t 7], none, []⟩]
def r78_2 : List VOper := [
  ⟨some 9, .fieldAddr 1 (.t 3), none, []⟩,
  ⟨some 10, .load false 1 (.t 9), none, []⟩,
  ⟨some 11, .call true (.c (.fn 30 [])) [.t 10, .c (.d (.int .i64 0)), .c (.d (.int .i64 99))], none, []⟩,
  ⟨some 12, .move (.t 11), none, []⟩,
  ⟨some 13, .fieldAddr 2 (.t 3), some (12, true), []⟩,
  ⟨some 14, .load false 1 (.t 13), some (12, true), []⟩,
  ⟨some 15, .len false (.t 14), some (12, true), []⟩,
  ⟨some 16, .bin .eql (.t 15) (.c (.d (.int .i64 0))), some (12, true), []⟩,
  ⟨some 17, .pick (.t 12) (.t 16) (.c (.d (.bool false))), none, []⟩,
  ⟨some 4, .move (.t 17), none, []⟩]
def r78_3 : List VOper := [
  ⟨some 18, .move (.t 0), none, []⟩,
  ⟨some 19, .fieldAddr 0 (.t 3), none, []⟩,
  ⟨some 20, .load false 1 (.t 19), none, [1]⟩,
  ⟨some 21, .call true (.c (.fn 29 [])) [.t 18, .t 20], none, [0, 2]⟩,
  ⟨some 22, .not (.t 21), none, [3]⟩,
  ⟨some 23, .move (.t 22), none, [3, 4]⟩,
  ⟨some 24, .fieldAddr 1 (.t 3), some (23, false), [5]⟩,
  ⟨some 25, .load false 1 (.t 24), some (23, false), [5, 6]⟩,
  ⟨some 26, .bin .neq (.t 25) (.c (.d (.int .i64 0))), some (23, false), [5, 7]⟩,
  ⟨some 27, .pick (.t 23) (.c (.d (.bool true))) (.t 26), none, [5, 8]⟩,
  ⟨some 28, .move (.t 27), none, [5, 9]⟩,
  ⟨some 29, .move (.t 0), some (28, false), [10]⟩,
  ⟨some 30, .fieldAddr 0 (.t 3), some (28, false), [10]⟩,
  ⟨some 31, .load false 1 (.t 30), some (28, false), [10, 12]⟩,
  ⟨some 32, .indexAddr 3 none (.t 29) (.t 31), some (28, false), [10, 11, 13]⟩,
  ⟨some 33, .fieldAddr 2 (.t 32), some (28, false), [10, 14]⟩,
  ⟨some 34, .load false 1 (.t 33), some (28, false), [10, 15]⟩,
  ⟨some 35, .not (.t 34), some (28, false), [10, 16]⟩,
  ⟨some 36, .move (.t 35), some (28, false), [10, 17]⟩,
  ⟨some 37, .fieldAddr 2 (.t 3), some (36, true), [18]⟩,
  ⟨some 38, .load false 1 (.t 37), some (36, true), [18, 19]⟩,
  ⟨some 39, .len false (.t 38), some (36, true), [18, 20]⟩,
  ⟨some 40, .move (.t 0), some (36, true), [18]⟩,
  ⟨some 41, .fieldAddr 0 (.t 3), some (36, true), [18]⟩,
  ⟨some 42, .load false 1 (.t 41), some (36, true), [18, 23]⟩,
  ⟨some 43, .indexAddr 3 none (.t 40) (.t 42), some (36, true), [18, 22, 24]⟩,
  ⟨some 44, .fieldAddr 1 (.t 43), some (36, true), [18, 25]⟩,
  ⟨some 45, .load false 1 (.t 44), some (36, true), [18, 26]⟩,
  ⟨some 46, .bin .neq (.t 39) (.t 45), some (36, true), [18, 21, 27]⟩,
  ⟨some 47, .pick (.t 36) (.t 46) (.c (.d (.bool false))), some (28, false), [10, 18, 28]⟩,
  ⟨some 48, .pick (.t 28) (.c (.d (.bool true))) (.t 47), none, [10, 29]⟩,
  ⟨some 49, .move (.t 48), none, [18, 30]⟩,
  ⟨some 50, .move (.t 0), some (49, false), [31]⟩,
  ⟨some 51, .fieldAddr 0 (.t 3), some (49, false), [31]⟩,
  ⟨some 52, .load false 1 (.t 51), some (49, false), [31, 33]⟩,
  ⟨some 53, .indexAddr 3 none (.t 50) (.t 52), some (49, false), [31, 32, 34]⟩,
  ⟨some 54, .fieldAddr 2 (.t 53), some (49, false), [31, 35]⟩,
  ⟨some 55, .load false 1 (.t 54), some (49, false), [31, 36]⟩,
  ⟨some 56, .move (.t 55), some (49, false), [31, 37]⟩,
  ⟨some 57, .fieldAddr 2 (.t 3), some (56, true), [38]⟩,
  ⟨some 58, .load false 1 (.t 57), some (56, true), [38, 39]⟩,
  ⟨some 59, .len false (.t 58), some (56, true), [38, 40]⟩,
  ⟨some 60, .bin .lss (.t 59) (.c (.d (.int .i64 2))), some (56, true), [38, 41]⟩,
  ⟨some 61, .pick (.t 56) (.t 60) (.c (.d (.bool false))), some (49, false), [31, 38, 42]⟩,
  ⟨some 62, .pick (.t 49) (.c (.d (.bool true))) (.t 61), none, [31, 43]⟩]
def r78_4 : List VOper := [
  ⟨some 4, .move (.c (.d (.bool false))), none, []⟩]
def r78_5 : List VOper := [
  ⟨some 63, .fieldAddr 2 (.t 3), none, []⟩,
  ⟨some 64, .load false 1 (.t 63), none, []⟩,
  ⟨some 65, .len false (.t 64), none, []⟩,
  ⟨some 66, .move (.c (.d (.int .i64 0))), none, []⟩]
def r78_6 : List VOper := [
  ⟨some 67, .bin .lss (.t 66) (.t 65), none, []⟩]
def r78_7 : List VOper := [
  ⟨some 68, .move (.t 66), none, []⟩,
  ⟨some 69, .indexAddr 3 none (.t 64) (.t 66), none, []⟩,
  ⟨some 70, .load true 3 (.t 69), none, []⟩,
  ⟨some 6, .alloc 0 [.int .i64 0, .int .i64 0, .sl .nil []], none, []⟩,
  ⟨some 5, .move (.t 68), none, []⟩,
  ⟨none, .store false 3 (.t 6) (.t 70), none, []⟩]
def r78_8 : List VOper := [
  ⟨some 71, .move (.t 0), none, []⟩,
  ⟨some 72, .load true 3 (.t 6), none, []⟩,
  ⟨some 73, .call true (.c (.fn 78 [])) [.t 71, .t 72], none, [0, 1]⟩,
  ⟨some 74, .not (.t 73), none, [2]⟩,
  ⟨some 75, .move (.t 74), none, [2, 3]⟩,
  ⟨some 76, .move (.t 0), some (75, false), [4]⟩,
  ⟨some 77, .fieldAddr 0 (.t 3), some (75, false), [4]⟩,
  ⟨some 78, .load false 1 (.t 77), some (75, false), [4, 6]⟩,
  ⟨some 79, .indexAddr 3 none (.t 76) (.t 78), some (75, false), [4, 5, 7]⟩,
  ⟨some 80, .fieldAddr 2 (.t 79), some (75, false), [4, 8]⟩,
  ⟨some 81, .load false 1 (.t 80), some (75, false), [4, 9]⟩,
  ⟨some 82, .move (.t 81), some (75, false), [4, 10]⟩,
  ⟨some 83, .fieldAddr 0 (.t 6), some (82, true), [11]⟩,
  ⟨some 84, .load false 1 (.t 83), some (82, true), [11, 12]⟩,
  ⟨some 85, .fieldAddr 0 (.t 3), some (82, true), [11]⟩,
  ⟨some 86, .load false 1 (.t 85), some (82, true), [11, 14]⟩,
  ⟨some 87, .bin .eql (.t 84) (.t 86), some (82, true), [11, 13, 15]⟩,
  ⟨some 88, .move (.t 87), some (82, true), [11, 16]⟩,
  ⟨some 89, .move (.t 5), some (88, false), [17]⟩,
  ⟨some 90, .bin .gtr (.t 89) (.c (.d (.int .i64 0))), some (88, false), [17, 18]⟩,
  ⟨some 91, .move (.t 90), some (88, false), [17, 19]⟩,
  ⟨some 92, .load true 3 (.t 6), some (91, true), [20]⟩,
  ⟨some 93, .fieldAddr 2 (.t 3), some (91, true), [20]⟩,
  ⟨some 94, .load false 1 (.t 93), some (91, true), [20, 22]⟩,
  ⟨some 95, .move (.t 5), some (91, true), [20]⟩,
  ⟨some 96, .bin .sub (.t 95) (.c (.d (.int .i64 1))), some (91, true), [20, 24]⟩,
  ⟨some 97, .indexAddr 3 none (.t 94) (.t 96), some (91, true), [20, 23, 25]⟩,
  ⟨some 98, .load true 3 (.t 97), some (91, true), [20, 26]⟩,
  ⟨some 99, .call true (.c (.fn 79 [])) [.t 92, .t 98], some (91, true), [20, 21, 27]⟩,
  ⟨some 100, .pick (.t 91) (.t 99) (.c (.d (.bool false))), some (88, false), [17, 20, 28]⟩,
  ⟨some 101, .pick (.t 88) (.c (.d (.bool true))) (.t 100), some (82, true), [11, 17, 29]⟩,
  ⟨some 102, .pick (.t 82) (.t 101) (.c (.d (.bool false))), some (75, false), [4, 11, 30]⟩,
  ⟨some 103, .pick (.t 75) (.c (.d (.bool true))) (.t 102), none, [4, 31]⟩]
def r78_9 : List VOper := [
  ⟨some 4, .move (.c (.d (.bool false))), none, []⟩]
def r78_10 : List VOper := [
  ⟨some 104, .bin .add (.t 66) (.c (.d (.int .i64 1))), none, []⟩,
  ⟨some 66, .move (.t 104), none, []⟩]
def b78_0 : VCode := (.seq (.region false 0 [0, 3, 64, 65, 66, 67] r78_6) (.seq (.cond (.t 67) .skip (.exit 0)) (.seq (.block 1 (.seq (.region false 1 [0, 3, 5, 6, 64, 65, 66] r78_7) (.seq (.region true 0 [0, 3, 64, 65, 66, 103] r78_8) (.cond (.t 103) (.seq (.region false 0 [4] r78_9) .ret) .skip)))) (.region false 0 [0, 3, 64, 65, 66] r78_10))))
def r78_11 : List VOper := [
  ⟨some 4, .move (.c (.d (.bool true))), none, []⟩]
def v78 : VFn := ⟨2, [.tmp 4], (.seq (.region false 1 [0, 3] r78_0) (.seq (.seq (.region false 0 [0, 3, 8] r78_1) (.cond (.t 8) (.seq (.region false 0 [4] r78_2) .ret) .skip)) (.seq (.seq (.region true 0 [0, 3, 62] r78_3) (.cond (.t 62) (.seq (.region false 0 [4] r78_4) .ret) .skip)) (.seq (.seq (.region false 0 [0, 3, 64, 65, 66] r78_5) (.block 0 (.loop [0, 3, 64, 65, 66] b78_0))) (.seq (.region false 0 [4] r78_11) .ret)))))⟩
/-! loop.example/g00461/impl.Before -/
def r79_0 : List VOper := [
  ⟨some 2, .box 0 (.t 0), none, []⟩,
  ⟨some 3, .box 1 (.t 1), none, []⟩,
  ⟨some 4, .move (.c (.d (.bool false))), none, []⟩]
def r79_1 : List VOper := [
  ⟨some 5, .load true 3 (.t 2), none, []⟩,
  ⟨some 6, .load true 3 (.t 3), none, []⟩,
  ⟨some 7, .call true (.c (.fn 6 [])) [.t 5, .t 6], none, []⟩,
  ⟨some 8, .bin .lss (.t 7) (.c (.d (.int .i64 0))), none, []⟩,
  ⟨some 4, .move (.t 8), none, []⟩]
def v79 : VFn := ⟨2, [.tmp 4], (.seq (.region false 2 [2, 3] r79_0) (.seq (.region false 0 [4] r79_1) .ret))⟩
/-! loop.example/g00461/spec.TermOk -/
def r80_0 : List VOper := [
  ⟨some 3, .box 0 (.t 1), none, []⟩,
  ⟨some 4, .move (.c (.d (.bool false))), none, []⟩]
def r80_1 : List VOper := [
  ⟨some 5, .move (.t 0), none, []⟩,
  ⟨some 6, .call true (.c (.fn 82 [])) [.t 5], none, []⟩,
  ⟨some 7, .move (.t 6), none, []⟩,
  ⟨some 8, .load true 3 (.t 3), some (7, true), []⟩,
  ⟨some 9, .call true (.c (.fn 22 [])) [.t 8], some (7, true), []⟩,
  ⟨some 10, .bin .leq (.t 9) (.c (.d (.int .i64 60))), some (7, true), []⟩,
  ⟨some 11, .pick (.t 7) (.t 10) (.c (.d (.bool false))), none, []⟩,
  ⟨some 12, .move (.t 11), none, []⟩,
  ⟨some 13, .move (.t 0), some (12, true), []⟩,
  ⟨some 14, .load true 3 (.t 3), some (12, true), []⟩,
  ⟨some 15, .call true (.c (.fn 83 [])) [.t 13, .t 14], some (12, true), []⟩,
  ⟨some 16, .pick (.t 12) (.t 15) (.c (.d (.bool false))), none, []⟩,
  ⟨some 4, .move (.t 16), none, []⟩]
def v80 : VFn := ⟨2, [.tmp 4], (.seq (.region false 1 [0, 3] r80_0) (.seq (.region false 0 [4] r80_1) .ret))⟩
/-! loop.example/g00461/spec.Count -/
def r81_0 : List VOper := [
  ⟨some 2, .box 0 (.t 0), none, []⟩,
  ⟨some 4, .move (.c (.d (.int .i64 0))), none, []⟩]
def r81_1 : List VOper := [
  ⟨some 7, .fieldAddr 0 (.t 2), none, []⟩,
  ⟨some 8, .load false 1 (.t 7), none, []⟩,
  ⟨some 9, .bin .eql (.t 8) (.c (.d (.int .i64 (-1)))), none, []⟩,
  ⟨some 10, .move (.t 9), none, []⟩,
  ⟨some 11, .fieldAddr 1 (.t 2), some (10, true), []⟩,
  ⟨some 12, .load false 1 (.t 11), some (10, true), []⟩,
  ⟨some 13, .move (.t 1), some (10, true), []⟩,
  ⟨some 14, .bin .eql (.t 12) (.t 13), some (10, true), []⟩,
  ⟨some 15, .pick (.t 10) (.t 14) (.c (.d (.bool false))), none, []⟩,
  ⟨some 16, .call true (.c (.fn 85 [])) [.t 15], none, []⟩,
  ⟨some 5, .move (.t 16), none, []⟩]
def r81_2 : List VOper := [
  ⟨some 6, .move (.c (.d (.int .i64 0))), none, []⟩]
def r81_3 : List VOper := [
  ⟨some 17, .move (.t 6), none, []⟩,
  ⟨some 18, .fieldAddr 2 (.t 2), none, []⟩,
  ⟨some 19, .load false 1 (.t 18), none, []⟩,
  ⟨some 20, .len false (.t 19), none, []⟩,
  ⟨some 21, .bin .lss (.t 17) (.t 20), none, []⟩]
def r81_5 : List VOper := [
  ⟨some 24, .move (.t 5), none, []⟩,
  ⟨some 25, .fieldAddr 2 (.t 2), none, []⟩,
  ⟨some 26, .load false 1 (.t 25), none, []⟩,
  ⟨some 27, .move (.t 6), none, []⟩,
  ⟨some 28, .indexAddr 3 none (.t 26) (.t 27), none, []⟩,
  ⟨some 29, .load true 3 (.t 28), none, []⟩,
  ⟨some 30, .move (.t 1), none, []⟩,
  ⟨some 31, .call true (.c (.fn 81 [])) [.t 29, .t 30], none, []⟩,
  ⟨some 32, .bin .add (.t 24) (.t 31), none, []⟩,
  ⟨some 5, .move (.t 32), none, []⟩]
def r81_4 : List VOper := [
  ⟨some 22, .move (.t 6), none, []⟩,
  ⟨some 23, .bin .add (.t 22) (.c (.d (.int .i64 1))), none, []⟩,
  ⟨some 6, .move (.t 23), none, []⟩]
def b81_0 : VCode := (.seq (.seq (.region false 0 [1, 2, 5, 6, 21] r81_3) (.cond (.t 21) .skip (.exit 0))) (.seq (.block 1 (.region false 0 [1, 2, 5, 6] r81_5)) (.region false 0 [1, 2, 5, 6] r81_4)))
def r81_6 : List VOper := [
  ⟨some 33, .move (.t 5), none, []⟩,
  ⟨some 4, .move (.t 33), none, []⟩]
def v81 : VFn := ⟨2, [.tmp 4], (.seq (.region false 1 [1, 2] r81_0) (.seq (.region false 0 [1, 2, 5] r81_1) (.seq (.seq (.region false 0 [1, 2, 5, 6] r81_2) (.block 0 (.loop [1, 2, 5, 6] b81_0))) (.seq (.region false 0 [4] r81_6) .ret))))⟩
/-! loop.example/g00461/spec.SigOk -/
def r82_0 : List VOper := [
  ⟨some 2, .move (.c (.d (.bool false))), none, []⟩]
def r82_1 : List VOper := [
  ⟨some 3, .move (.c (.d (.int .i64 0))), none, []⟩]
def r82_2 : List VOper := [
  ⟨some 4, .move (.t 3), none, []⟩,
  ⟨some 5, .move (.t 0), none, []⟩,
  ⟨some 6, .len false (.t 5), none, []⟩,
  ⟨some 7, .bin .lss (.t 4) (.t 6), none, []⟩]
def r82_4 : List VOper := [
  ⟨some 10, .move (.t 0), none, []⟩,
  ⟨some 11, .move (.t 3), none, []⟩,
  ⟨some 12, .indexAddr 3 none (.t 10) (.t 11), none, []⟩,
  ⟨some 13, .fieldAddr 0 (.t 12), none, []⟩,
  ⟨some 14, .load false 1 (.t 13), none, []⟩,
  ⟨some 15, .call true (.c (.fn 59 [])) [.t 14], none, []⟩,
  ⟨some 16, .not (.t 15), none, []⟩,
  ⟨some 17, .move (.t 16), none, []⟩,
  ⟨some 18, .move (.t 0), some (17, false), []⟩,
  ⟨some 19, .move (.t 0), some (17, false), []⟩,
  ⟨some 20, .move (.t 3), some (17, false), []⟩,
  ⟨some 21, .indexAddr 3 none (.t 19) (.t 20), some (17, false), []⟩,
  ⟨some 22, .fieldAddr 0 (.t 21), some (17, false), []⟩,
  ⟨some 23, .load false 1 (.t 22), some (17, false), []⟩,
  ⟨some 24, .call true (.c (.fn 13 [])) [.t 18, .t 23], some (17, false), []⟩,
  ⟨some 25, .move (.t 3), some (17, false), []⟩,
  ⟨some 26, .bin .neq (.t 24) (.t 25), some (17, false), []⟩,
  ⟨some 27, .pick (.t 17) (.c (.d (.bool true))) (.t 26), none, []⟩,
  ⟨some 28, .move (.t 27), none, []⟩,
  ⟨some 29, .move (.t 0), some (28, false), []⟩,
  ⟨some 30, .move (.t 3), some (28, false), []⟩,
  ⟨some 31, .indexAddr 3 none (.t 29) (.t 30), some (28, false), []⟩,
  ⟨some 32, .fieldAddr 1 (.t 31), some (28, false), []⟩,
  ⟨some 33, .load false 1 (.t 32), some (28, false), []⟩,
  ⟨some 34, .call true (.c (.fn 31 [])) [.t 33, .c (.d (.int .i64 0)), .c (.d (.int .i64 3))], some (28, false), []⟩,
  ⟨some 35, .not (.t 34), some (28, false), []⟩,
  ⟨some 36, .pick (.t 28) (.c (.d (.bool true))) (.t 35), none, []⟩,
  ⟨some 37, .move (.t 36), none, []⟩,
  ⟨some 38, .move (.t 0), some (37, false), []⟩,
  ⟨some 39, .move (.t 3), some (37, false), []⟩,
  ⟨some 40, .indexAddr 3 none (.t 38) (.t 39), some (37, false), []⟩,
  ⟨some 41, .fieldAddr 2 (.t 40), some (37, false), []⟩,
  ⟨some 42, .load false 1 (.t 41), some (37, false), []⟩,
  ⟨some 43, .move (.t 42), some (37, false), []⟩,
  ⟨some 44, .move (.t 0), some (43, true), []⟩,
  ⟨some 45, .move (.t 3), some (43, true), []⟩,
  ⟨some 46, .indexAddr 3 none (.t 44) (.t 45), some (43, true), []⟩,
  ⟨some 47, .fieldAddr 1 (.t 46), some (43, true), []⟩,
  ⟨some 48, .load false 1 (.t 47), some (43, true), []⟩,
  ⟨some 49, .bin .neq (.t 48) (.c (.d (.int .i64 2))), some (43, true), []⟩,
  ⟨some 50, .pick (.t 43) (.t 49) (.c (.d (.bool false))), some (37, false), []⟩,
  ⟨some 51, .pick (.t 37) (.c (.d (.bool true))) (.t 50), none, []⟩]
def r82_5 : List VOper := [
  ⟨some 2, .move (.c (.d (.bool false))), none, []⟩]
def r82_3 : List VOper := [
  ⟨some 8, .move (.t 3), none, []⟩,
  ⟨some 9, .bin .add (.t 8) (.c (.d (.int .i64 1))), none, []⟩,
  ⟨some 3, .move (.t 9), none, []⟩]
def b82_0 : VCode := (.seq (.seq (.region false 0 [0, 3, 7] r82_2) (.cond (.t 7) .skip (.exit 0))) (.seq (.block 1 (.seq (.region false 0 [0, 3, 51] r82_4) (.cond (.t 51) (.seq (.region false 0 [2] r82_5) .ret) .skip))) (.region false 0 [0, 3] r82_3)))
def r82_6 : List VOper := [
  ⟨some 52, .move (.t 0), none, []⟩,
  ⟨some 53, .len false (.t 52), none, []⟩,
  ⟨some 54, .call true (.c (.fn 31 [])) [.t 53, .c (.d (.int .i64 1)), .c (.d (.int .i64 8))], none, []⟩,
  ⟨some 55, .move (.t 54), none, []⟩,
  ⟨some 56, .move (.t 0), some (55, true), []⟩,
  ⟨some 57, .indexAddr 3 none (.t 56) (.c (.d (.int .i64 0))), some (55, true), []⟩,
  ⟨some 58, .load true 3 (.t 57), some (55, true), []⟩,
  ⟨some 59, .build [.str ⟨#[]⟩, .int .i64 0, .bool false] [(0, 1, .c (.d (.str ⟨#[116, 116]⟩)))], some (55, true), []⟩,
  ⟨some 60, .eqAgg false [2, 0, 1] (.t 58) (.t 59), some (55, true), []⟩,
  ⟨some 61, .pick (.t 55) (.t 60) (.c (.d (.bool false))), none, []⟩,
  ⟨some 2, .move (.t 61), none, []⟩]
def v82 : VFn := ⟨1, [.tmp 2], (.seq (.region false 0 [0] r82_0) (.seq (.seq (.region false 0 [0, 3] r82_1) (.block 0 (.loop [0, 3] b82_0))) (.seq (.region false 0 [2] r82_6) .ret)))⟩
/-! loop.example/g00461/spec.l4Right -/
def r83_0 : List VOper := [
  ⟨some 3, .box 0 (.t 1), none, []⟩,
  ⟨some 4, .move (.c (.d (.bool false))), none, []⟩]
def r83_1 : List VOper := [
  ⟨some 6, .fieldAddr 0 (.t 3), none, []⟩,
  ⟨some 7, .load false 1 (.t 6), none, []⟩,
  ⟨some 8, .bin .eql (.t 7) (.c (.d (.int .i64 (-1)))), none, []⟩]
def r83_2 : List VOper := [
  ⟨some 9, .fieldAddr 1 (.t 3), none, []⟩,
  ⟨some 10, .load false 1 (.t 9), none, []⟩,
  ⟨some 11, .call true (.c (.fn 31 [])) [.t 10, .c (.d (.int .i64 0)), .c (.d (.int .i64 99))], none, []⟩,
  ⟨some 12, .move (.t 11), none, []⟩,
  ⟨some 13, .fieldAddr 2 (.t 3), some (12, true), []⟩,
  ⟨some 14, .load false 1 (.t 13), some (12, true), []⟩,
  ⟨some 15, .len false (.t 14), some (12, true), []⟩,
  ⟨some 16, .bin .eql (.t 15) (.c (.d (.int .i64 0))), some (12, true), []⟩,
  ⟨some 17, .pick (.t 12) (.t 16) (.c (.d (.bool false))), none, []⟩,
  ⟨some 4, .move (.t 17), none, []⟩]
def r83_3 : List VOper := [
  ⟨some 18, .fieldAddr 0 (.t 3), none, []⟩,
  ⟨some 19, .load false 1 (.t 18), none, [0]⟩,
  ⟨some 20, .move (.t 0), none, []⟩,
  ⟨some 21, .len false (.t 20), none, [2]⟩,
  ⟨some 22, .bin .sub (.t 21) (.c (.d (.int .i64 1))), none, [3]⟩,
  ⟨some 23, .call true (.c (.fn 31 [])) [.t 19, .c (.d (.int .i64 0)), .t 22], none, [1, 4]⟩,
  ⟨some 24, .not (.t 23), none, [5]⟩,
  ⟨some 25, .move (.t 24), none, [5, 6]⟩,
  ⟨some 26, .fieldAddr 1 (.t 3), some (25, false), [7]⟩,
  ⟨some 27, .load false 1 (.t 26), some (25, false), [7, 8]⟩,
  ⟨some 28, .bin .neq (.t 27) (.c (.d (.int .i64 0))), some (25, false), [7, 9]⟩,
  ⟨some 29, .pick (.t 25) (.c (.d (.bool true))) (.t 28), none, [7, 10]⟩,
  ⟨some 30, .move (.t 29), none, [7, 11]⟩,
  ⟨some 31, .move (.t 0), some (30, false), [12]⟩,
  ⟨some 32, .fieldAddr 0 (.t 3), some (30, false), [12]⟩,
  ⟨some 33, .load false 1 (.t 32), some (30, false), [12, 14]⟩,
  ⟨some 34, .indexAddr 3 none (.t 31) (.t 33), some (30, false), [12, 13, 15]⟩,
  ⟨some 35, .fieldAddr 2 (.t 34), some (30, false), [12, 16]⟩,
  ⟨some 36, .load false 1 (.t 35), some (30, false), [12, 17]⟩,
  ⟨some 37, .not (.t 36), some (30, false), [12, 18]⟩,
  ⟨some 38, .move (.t 37), some (30, false), [12, 19]⟩,
  ⟨some 39, .fieldAddr 2 (.t 3), some (38, true), [20]⟩,
  ⟨some 40, .load false 1 (.t 39), some (38, true), [20, 21]⟩,
  ⟨some 41, .len false (.t 40), some (38, true), [20, 22]⟩,
  ⟨some 42, .move (.t 0), some (38, true), [20]⟩,
  ⟨some 43, .fieldAddr 0 (.t 3), some (38, true), [20]⟩,
  ⟨some 44, .load false 1 (.t 43), some (38, true), [20, 25]⟩,
  ⟨some 45, .indexAddr 3 none (.t 42) (.t 44), some (38, true), [20, 24, 26]⟩,
  ⟨some 46, .fieldAddr 1 (.t 45), some (38, true), [20, 27]⟩,
  ⟨some 47, .load false 1 (.t 46), some (38, true), [20, 28]⟩,
  ⟨some 48, .bin .neq (.t 41) (.t 47), some (38, true), [20, 23, 29]⟩,
  ⟨some 49, .pick (.t 38) (.t 48) (.c (.d (.bool false))), some (30, false), [12, 20, 30]⟩,
  ⟨some 50, .pick (.t 30) (.c (.d (.bool true))) (.t 49), none, [12, 31]⟩,
  ⟨some 51, .move (.t 50), none, [20, 32]⟩,
  ⟨some 52, .move (.t 0), some (51, false), [33]⟩,
  ⟨some 53, .fieldAddr 0 (.t 3), some (51, false), [33]⟩,
  ⟨some 54, .load false 1 (.t 53), some (51, false), [33, 35]⟩,
  ⟨some 55, .indexAddr 3 none (.t 52) (.t 54), some (51, false), [33, 34, 36]⟩,
  ⟨some 56, .fieldAddr 2 (.t 55), some (51, false), [33, 37]⟩,
  ⟨some 57, .load false 1 (.t 56), some (51, false), [33, 38]⟩,
  ⟨some 58, .move (.t 57), some (51, false), [33, 39]⟩,
  ⟨some 59, .fieldAddr 2 (.t 3), some (58, true), [40]⟩,
  ⟨some 60, .load false 1 (.t 59), some (58, true), [40, 41]⟩,
  ⟨some 61, .len false (.t 60), some (58, true), [40, 42]⟩,
  ⟨some 62, .bin .lss (.t 61) (.c (.d (.int .i64 2))), some (58, true), [40, 43]⟩,
  ⟨some 63, .pick (.t 58) (.t 62) (.c (.d (.bool false))), some (51, false), [33, 40, 44]⟩,
  ⟨some 64, .pick (.t 51) (.c (.d (.bool true))) (.t 63), none, [33, 45]⟩]
def r83_4 : List VOper := [
  ⟨some 4, .move (.c (.d (.bool false))), none, []⟩]
def r83_5 : List VOper := [
  ⟨some 5, .move (.c (.d (.int .i64 0))), none, []⟩]
def r83_6 : List VOper := [
  ⟨some 65, .move (.t 5), none, []⟩,
  ⟨some 66, .fieldAddr 2 (.t 3), none, []⟩,
  ⟨some 67, .load false 1 (.t 66), none, []⟩,
  ⟨some 68, .len false (.t 67), none, []⟩,
  ⟨some 69, .bin .lss (.t 65) (.t 68), none, []⟩]
def r83_8 : List VOper := [
  ⟨some 72, .move (.t 0), none, []⟩,
  ⟨some 73, .fieldAddr 0 (.t 3), none, []⟩,
  ⟨some 74, .load false 1 (.t 73), none, [1]⟩,
  ⟨some 75, .indexAddr 3 none (.t 72) (.t 74), none, [0, 2]⟩,
  ⟨some 76, .fieldAddr 2 (.t 75), none, [3]⟩,
  ⟨some 77, .load false 1 (.t 76), none, [4]⟩,
  ⟨some 78, .move (.t 77), none, [5]⟩,
  ⟨some 79, .fieldAddr 2 (.t 3), some (78, true), [6]⟩,
  ⟨some 80, .load false 1 (.t 79), some (78, true), [6, 7]⟩,
  ⟨some 81, .move (.t 5), some (78, true), [6]⟩,
  ⟨some 82, .indexAddr 3 none (.t 80) (.t 81), some (78, true), [6, 8, 9]⟩,
  ⟨some 83, .fieldAddr 0 (.t 82), some (78, true), [6, 10]⟩,
  ⟨some 84, .load false 1 (.t 83), some (78, true), [6, 11]⟩,
  ⟨some 85, .fieldAddr 0 (.t 3), some (78, true), [6]⟩,
  ⟨some 86, .load false 1 (.t 85), some (78, true), [6, 13]⟩,
  ⟨some 87, .bin .eql (.t 84) (.t 86), some (78, true), [6, 12, 14]⟩,
  ⟨some 88, .move (.t 87), some (78, true), [6, 15]⟩,
  ⟨some 89, .move (.t 5), some (88, false), [16]⟩,
  ⟨some 90, .bin .gtr (.t 89) (.c (.d (.int .i64 0))), some (88, false), [16, 17]⟩,
  ⟨some 91, .move (.t 90), some (88, false), [16, 18]⟩,
  ⟨some 92, .fieldAddr 2 (.t 3), some (91, true), [19]⟩,
  ⟨some 93, .load false 1 (.t 92), some (91, true), [19, 20]⟩,
  ⟨some 94, .move (.t 5), some (91, true), [19]⟩,
  ⟨some 95, .indexAddr 3 none (.t 93) (.t 94), some (91, true), [19, 21, 22]⟩,
  ⟨some 96, .load true 3 (.t 95), some (91, true), [19, 23]⟩,
  ⟨some 97, .fieldAddr 2 (.t 3), some (91, true), [19]⟩,
  ⟨some 98, .load false 1 (.t 97), some (91, true), [19, 25]⟩,
  ⟨some 99, .move (.t 5), some (91, true), [19]⟩,
  ⟨some 100, .bin .sub (.t 99) (.c (.d (.int .i64 1))), some (91, true), [19, 27]⟩,
  ⟨some 101, .indexAddr 3 none (.t 98) (.t 100), some (91, true), [19, 26, 28]⟩,
  ⟨some 102, .load true 3 (.t 101), some (91, true), [19, 29]⟩,
  ⟨some 103, .call true (.c (.fn 84 [])) [.t 96, .t 102], some (91, true), [19, 24, 30]⟩,
  ⟨some 104, .pick (.t 91) (.t 103) (.c (.d (.bool false))), some (88, false), [16, 19, 31]⟩,
  ⟨some 105, .pick (.t 88) (.c (.d (.bool true))) (.t 104), some (78, true), [6, 16, 32]⟩,
  ⟨some 106, .pick (.t 78) (.t 105) (.c (.d (.bool false))), none, [6, 33]⟩,
  ⟨some 107, .move (.t 106), none, [31, 34]⟩,
  ⟨some 108, .move (.t 0), some (107, false), [35]⟩,
  ⟨some 109, .fieldAddr 2 (.t 3), some (107, false), [35]⟩,
  ⟨some 110, .load false 1 (.t 109), some (107, false), [35, 37]⟩,
  ⟨some 111, .move (.t 5), some (107, false), [35]⟩,
  ⟨some 112, .indexAddr 3 none (.t 110) (.t 111), some (107, false), [35, 38, 39]⟩,
  ⟨some 113, .load true 3 (.t 112), some (107, false), [35, 40]⟩,
  ⟨some 114, .call true (.c (.fn 83 [])) [.t 108, .t 113], some (107, false), [35, 36, 41]⟩,
  ⟨some 115, .not (.t 114), some (107, false), [35, 42]⟩,
  ⟨some 116, .pick (.t 107) (.c (.d (.bool true))) (.t 115), none, [35, 43]⟩]
def r83_9 : List VOper := [
  ⟨some 4, .move (.c (.d (.bool false))), none, []⟩]
def r83_7 : List VOper := [
  ⟨some 70, .move (.t 5), none, []⟩,
  ⟨some 71, .bin .add (.t 70) (.c (.d (.int .i64 1))), none, []⟩,
  ⟨some 5, .move (.t 71), none, []⟩]
def b83_0 : VCode := (.seq (.seq (.region false 0 [0, 3, 5, 69] r83_6) (.cond (.t 69) .skip (.exit 0))) (.seq (.block 1 (.seq (.region true 0 [0, 3, 5, 116] r83_8) (.cond (.t 116) (.seq (.region false 0 [4] r83_9) .ret) .skip))) (.region false 0 [0, 3, 5] r83_7)))
def r83_10 : List VOper := [
  ⟨some 4, .move (.c (.d (.bool true))), none, []⟩]
def v83 : VFn := ⟨2, [.tmp 4], (.seq (.region false 1 [0, 3] r83_0) (.seq (.seq (.region false 0 [0, 3, 8] r83_1) (.cond (.t 8) (.seq (.region false 0 [4] r83_2) .ret) .skip)) (.seq (.seq (.region true 0 [0, 3, 64] r83_3) (.cond (.t 64) (.seq (.region false 0 [4] r83_4) .ret) .skip)) (.seq (.seq (.region false 0 [0, 3, 5] r83_5) (.block 0 (.loop [0, 3, 5] b83_0))) (.seq (.region false 0 [4] r83_10) .ret)))))⟩
/-! loop.example/g00461/spec.Before -/
def r84_0 : List VOper := [
  ⟨some 2, .box 0 (.t 0), none, []⟩,
  ⟨some 3, .box 1 (.t 1), none, []⟩,
  ⟨some 4, .move (.c (.d (.bool false))), none, []⟩]
def r84_1 : List VOper := [
  ⟨some 6, .fieldAddr 0 (.t 2), none, []⟩,
  ⟨some 7, .load false 1 (.t 6), none, []⟩,
  ⟨some 8, .fieldAddr 0 (.t 3), none, []⟩,
  ⟨some 9, .load false 1 (.t 8), none, []⟩,
  ⟨some 10, .bin .neq (.t 7) (.t 9), none, []⟩]
def r84_2 : List VOper := [
  ⟨some 11, .fieldAddr 0 (.t 2), none, []⟩,
  ⟨some 12, .load false 1 (.t 11), none, []⟩,
  ⟨some 13, .fieldAddr 0 (.t 3), none, []⟩,
  ⟨some 14, .load false 1 (.t 13), none, []⟩,
  ⟨some 15, .bin .lss (.t 12) (.t 14), none, []⟩,
  ⟨some 4, .move (.t 15), none, []⟩]
def r84_3 : List VOper := [
  ⟨some 16, .fieldAddr 1 (.t 2), none, []⟩,
  ⟨some 17, .load false 1 (.t 16), none, []⟩,
  ⟨some 18, .fieldAddr 1 (.t 3), none, []⟩,
  ⟨some 19, .load false 1 (.t 18), none, []⟩,
  ⟨some 20, .bin .neq (.t 17) (.t 19), none, []⟩]
def r84_4 : List VOper := [
  ⟨some 21, .fieldAddr 1 (.t 2), none, []⟩,
  ⟨some 22, .load false 1 (.t 21), none, []⟩,
  ⟨some 23, .fieldAddr 1 (.t 3), none, []⟩,
  ⟨some 24, .load false 1 (.t 23), none, []⟩,
  ⟨some 25, .bin .lss (.t 22) (.t 24), none, []⟩,
  ⟨some 4, .move (.t 25), none, []⟩]
def r84_5 : List VOper := [
  ⟨some 26, .fieldAddr 2 (.t 2), none, []⟩,
  ⟨some 27, .load false 1 (.t 26), none, []⟩,
  ⟨some 28, .len false (.t 27), none, []⟩,
  ⟨some 29, .fieldAddr 2 (.t 3), none, []⟩,
  ⟨some 30, .load false 1 (.t 29), none, []⟩,
  ⟨some 31, .len false (.t 30), none, []⟩,
  ⟨some 32, .bin .neq (.t 28) (.t 31), none, []⟩]
def r84_6 : List VOper := [
  ⟨some 33, .fieldAddr 2 (.t 2), none, []⟩,
  ⟨some 34, .load false 1 (.t 33), none, []⟩,
  ⟨some 35, .len false (.t 34), none, []⟩,
  ⟨some 36, .fieldAddr 2 (.t 3), none, []⟩,
  ⟨some 37, .load false 1 (.t 36), none, []⟩,
  ⟨some 38, .len false (.t 37), none, []⟩,
  ⟨some 39, .bin .lss (.t 35) (.t 38), none, []⟩,
  ⟨some 4, .move (.t 39), none, []⟩]
def r84_7 : List VOper := [
  ⟨some 5, .move (.c (.d (.int .i64 0))), none, []⟩]
def r84_8 : List VOper := [
  ⟨some 40, .move (.t 5), none, []⟩,
  ⟨some 41, .fieldAddr 2 (.t 2), none, []⟩,
  ⟨some 42, .load false 1 (.t 41), none, []⟩,
  ⟨some 43, .len false (.t 42), none, []⟩,
  ⟨some 44, .bin .lss (.t 40) (.t 43), none, []⟩]
def r84_10 : List VOper := [
  ⟨some 47, .fieldAddr 2 (.t 2), none, []⟩,
  ⟨some 48, .load false 1 (.t 47), none, [0]⟩,
  ⟨some 49, .move (.t 5), none, []⟩,
  ⟨some 50, .indexAddr 3 none (.t 48) (.t 49), none, [1, 2]⟩,
  ⟨some 51, .load true 3 (.t 50), none, [3]⟩,
  ⟨some 52, .fieldAddr 2 (.t 3), none, []⟩,
  ⟨some 53, .load false 1 (.t 52), none, [5]⟩,
  ⟨some 54, .move (.t 5), none, []⟩,
  ⟨some 55, .indexAddr 3 none (.t 53) (.t 54), none, [6, 7]⟩,
  ⟨some 56, .load true 3 (.t 55), none, [8]⟩,
  ⟨some 57, .call true (.c (.fn 3 [])) [.t 51, .t 56], none, [4, 9]⟩,
  ⟨some 58, .not (.t 57), none, [10]⟩]
def r84_11 : List VOper := [
  ⟨some 59, .fieldAddr 2 (.t 2), none, []⟩,
  ⟨some 60, .load false 1 (.t 59), none, [0]⟩,
  ⟨some 61, .move (.t 5), none, []⟩,
  ⟨some 62, .indexAddr 3 none (.t 60) (.t 61), none, [1, 2]⟩,
  ⟨some 63, .load true 3 (.t 62), none, [3]⟩,
  ⟨some 64, .fieldAddr 2 (.t 3), none, []⟩,
  ⟨some 65, .load false 1 (.t 64), none, [5]⟩,
  ⟨some 66, .move (.t 5), none, []⟩,
  ⟨some 67, .indexAddr 3 none (.t 65) (.t 66), none, [6, 7]⟩,
  ⟨some 68, .load true 3 (.t 67), none, [8]⟩,
  ⟨some 69, .call true (.c (.fn 84 [])) [.t 63, .t 68], none, [4, 9]⟩,
  ⟨some 4, .move (.t 69), none, [0, 1, 2, 3, 4, 5, 6, 7, 8, 9, 10]⟩]
def r84_9 : List VOper := [
  ⟨some 45, .move (.t 5), none, []⟩,
  ⟨some 46, .bin .add (.t 45) (.c (.d (.int .i64 1))), none, []⟩,
  ⟨some 5, .move (.t 46), none, []⟩]
def b84_0 : VCode := (.seq (.seq (.region false 0 [2, 3, 5, 44] r84_8) (.cond (.t 44) .skip (.exit 0))) (.seq (.block 1 (.seq (.region true 0 [2, 3, 5, 58] r84_10) (.cond (.t 58) (.seq (.region true 0 [4] r84_11) .ret) .skip))) (.region false 0 [2, 3, 5] r84_9)))
def r84_12 : List VOper := [
  ⟨some 4, .move (.c (.d (.bool false))), none, []⟩]
def v84 : VFn := ⟨2, [.tmp 4], (.seq (.region false 2 [2, 3] r84_0) (.seq (.seq (.region false 0 [2, 3, 10] r84_1) (.cond (.t 10) (.seq (.region false 0 [4] r84_2) .ret) .skip)) (.seq (.seq (.region false 0 [2, 3, 20] r84_3) (.cond (.t 20) (.seq (.region false 0 [4] r84_4) .ret) .skip)) (.seq (.seq (.region false 0 [2, 3, 32] r84_5) (.cond (.t 32) (.seq (.region false 0 [4] r84_6) .ret) .skip)) (.seq (.seq (.region false 0 [2, 3, 5] r84_7) (.block 0 (.loop [2, 3, 5] b84_0))) (.seq (.region false 0 [4] r84_12) .ret))))))⟩
/-! loop.example/g00461/spec.l1Bit -/
def r85_0 : List VOper := [
  ⟨some 2, .move (.c (.d (.int .i64 0))), none, []⟩]
def r85_1 : List VOper := [
  ⟨some 3, .move (.t 0), none, []⟩]
def r85_2 : List VOper := [
  ⟨some 2, .move (.c (.d (.int .i64 1))), none, []⟩]
def r85_3 : List VOper := [
  ⟨some 2, .move (.c (.d (.int .i64 0))), none, []⟩]
def v85 : VFn := ⟨1, [.tmp 2], (.seq (.region false 0 [0] r85_0) (.seq (.seq (.region false 0 [3] r85_1) (.cond (.t 3) (.seq (.region false 0 [2] r85_2) .ret) .skip)) (.seq (.region false 0 [2] r85_3) .ret)))⟩
/-! loop.example/g00461/spec.Ground -/
def r102_0 : List VOper := [
  ⟨some 1, .box 0 (.t 0), none, []⟩,
  ⟨some 2, .move (.c (.d (.bool false))), none, []⟩]
def r102_1 : List VOper := [
  ⟨some 3, .load true 3 (.t 1), none, []⟩,
  ⟨some 4, .call true (.c (.fn 110 [])) [.t 3], none, []⟩,
  ⟨some 5, .len false (.t 4), none, []⟩,
  ⟨some 6, .bin .eql (.t 5) (.c (.d (.int .i64 0))), none, []⟩,
  ⟨some 2, .move (.t 6), none, []⟩]
def v102 : VFn := ⟨1, [.tmp 2], (.seq (.region false 1 [1] r102_0) (.seq (.region false 0 [2] r102_1) .ret))⟩
/-! loop.example/g00461/impl.Ground -/
def r103_0 : List VOper := [
  ⟨some 1, .box 0 (.t 0), none, []⟩,
  ⟨some 2, .move (.c (.d (.bool false))), none, []⟩]
def r103_1 : List VOper := [
  ⟨some 3, .load true 3 (.t 1), none, []⟩,
  ⟨some 4, .call true (.c (.fn 104 [])) [.t 3], none, []⟩,
  ⟨some 5, .len false (.t 4), none, []⟩,
  ⟨some 6, .bin .eql (.t 5) (.c (.d (.int .i64 0))), none, []⟩,
  ⟨some 2, .move (.t 6), none, []⟩]
def v103 : VFn := ⟨1, [.tmp 2], (.seq (.region false 1 [1] r103_0) (.seq (.region false 0 [2] r103_1) .ret))⟩
/-! loop.example/g00461/impl.VarsOf -/
def r104_0 : List VOper := [
  ⟨some 1, .box 0 (.t 0), none, []⟩,
  ⟨some 2, .move (.c (.d (.sl .nil []))), none, []⟩]
def r104_1 : List VOper := [
  ⟨some 4, .buildSlice 1 (.int .i64 0) 0 [], none, []⟩,
  ⟨some 3, .alloc 0 [.sl .nil []], none, []⟩,
  ⟨none, .store false 1 (.t 3) (.t 4), none, []⟩]
def r104_2 : List VOper := [
  ⟨some 5, .load true 3 (.t 1), none, []⟩,
  ⟨some 6, .makeFunc 105 [.t 3], none, []⟩,
  ⟨some 7, .call false (.c (.fn 25 [])) [.t 5, .t 6], none, []⟩]
def r104_3 : List VOper := [
  ⟨some 8, .load false 1 (.t 3), none, []⟩,
  ⟨some 2, .move (.t 8), none, []⟩]
def v104 : VFn := ⟨1, [.tmp 2], (.seq (.region false 1 [1] r104_0) (.seq (.region false 1 [1, 3] r104_1) (.seq (.region false 0 [3] r104_2) (.seq (.region false 0 [2] r104_3) .ret))))⟩
/-! loop.example/g00461/impl.VarsOf$1 -/
def r105_0 : List VOper := [
  ⟨some 2, .box 0 (.t 0), none, []⟩]
def r105_1 : List VOper := [
  ⟨some 3, .load true 3 (.t 2), none, []⟩,
  ⟨some 4, .call true (.c (.fn 75 [])) [.t 3], none, []⟩]
def r105_2 : List VOper := [
  ⟨some 5, .load false 1 (.t 1), none, []⟩,
  ⟨some 6, .fieldAddr 1 (.t 2), none, []⟩,
  ⟨some 7, .load false 1 (.t 6), none, []⟩,
  ⟨some 8, .call true (.c (.fn 106 [])) [.t 5, .t 7], none, []⟩,
  ⟨none, .store false 1 (.t 1) (.t 8), none, []⟩]
def v105 : VFn := ⟨2, [], (.seq (.region false 1 [1, 2] r105_0) (.seq (.region false 0 [1, 2, 4] r105_1) (.cond (.t 4) (.region false 0 [] r105_2) .skip)))⟩
/-! loop.example/g00461/impl.NumAdd -/
def r106_0 : List VOper := [
  ⟨some 3, .box 0 (.t 1), none, []⟩,
  ⟨some 4, .move (.c (.d (.sl .nil []))), none, []⟩]
def r106_1 : List VOper := [
  ⟨some 7, .move (.t 0), none, []⟩,
  ⟨some 8, .call true (.c (.fn 107 [])) [.t 7], none, []⟩,
  ⟨some 5, .move (.t 8), none, []⟩]
def r106_2 : List VOper := [
  ⟨some 9, .move (.t 0), none, []⟩,
  ⟨some 10, .load false 1 (.t 3), none, []⟩,
  ⟨some 11, .call true (.c (.fn 54 [])) [.t 9, .t 10], none, []⟩]
def r106_3 : List VOper := [
  ⟨some 12, .move (.t 5), none, []⟩,
  ⟨some 4, .move (.t 12), none, []⟩]
def r106_4 : List VOper := [
  ⟨some 13, .move (.t 0), none, []⟩,
  ⟨some 14, .makeFunc 108 [.t 3], none, []⟩,
  ⟨some 15, .call false (.c (.fn 47 [])) [.t 13, .t 14], none, []⟩,
  ⟨some 6, .move (.t 15), none, []⟩]
def r106_5 : List VOper := [
  ⟨some 16, .move (.t 6), none, []⟩,
  ⟨some 17, .bin .lss (.t 16) (.c (.d (.int .i64 0))), none, []⟩]
def r106_6 : List VOper := [
  ⟨some 18, .move (.t 0), none, []⟩,
  ⟨some 19, .len false (.t 18), none, []⟩,
  ⟨some 6, .move (.t 19), none, []⟩]
def r106_7 : List VOper := [
  ⟨some 20, .move (.t 5), none, []⟩,
  ⟨some 21, .move (.t 6), none, []⟩,
  ⟨some 22, .load false 1 (.t 3), none, []⟩,
  ⟨some 23, .buildSlice 1 (.int .i64 0) 1 [(0, .t 22)], none, []⟩,
  ⟨some 24, .call true (.c (.fn 109 [])) [.t 20, .t 21, .t 23], none, []⟩,
  ⟨some 4, .move (.t 24), none, []⟩]
def v106 : VFn := ⟨2, [.tmp 4], (.seq (.region false 1 [0, 3] r106_0) (.seq (.region false 0 [0, 3, 5] r106_1) (.seq (.seq (.region false 0 [0, 3, 5, 11] r106_2) (.cond (.t 11) (.seq (.region false 0 [4] r106_3) .ret) .skip)) (.seq (.region false 0 [0, 3, 5, 6] r106_4) (.seq (.seq (.region false 0 [0, 3, 5, 6, 17] r106_5) (.cond (.t 17) (.region false 0 [3, 5, 6] r106_6) .skip)) (.seq (.region false 0 [4] r106_7) .ret))))))⟩
/-! slices.Clone[[]int,int] -/
def r107_0 : List VOper := [
  ⟨some 2, .move (.c (.d (.sl .nil []))), none, []⟩]
def r107_1 : List VOper := [
  ⟨some 3, .move (.t 0), none, []⟩,
  ⟨some 4, .eqNil false (.t 3), none, []⟩]
def r107_2 : List VOper := [
  ⟨some 2, .move (.c (.d (.sl .nil []))), none, []⟩]
def r107_3 : List VOper := [
  ⟨some 5, .buildSlice 1 (.int .i64 0) 0 [], none, []⟩,
  ⟨some 6, .move (.t 0), none, []⟩,
  ⟨some 7, .append 1 8 (.t 5) (.t 6), none, []⟩,
  ⟨some 2, .move (.t 7), none, []⟩]
def v107 : VFn := ⟨1, [.tmp 2], (.seq (.region false 0 [0] r107_0) (.seq (.seq (.region false 0 [0, 4] r107_1) (.cond (.t 4) (.seq (.region false 0 [2] r107_2) .ret) .skip)) (.seq (.region false 0 [2] r107_3) .ret)))⟩
/-! loop.example/g00461/impl.NumAdd$1 -/
def r108_0 : List VOper := [
  ⟨some 3, .move (.c (.d (.bool false))), none, []⟩]
def r108_1 : List VOper := [
  ⟨some 4, .move (.t 0), none, []⟩,
  ⟨some 5, .load false 1 (.t 1), none, []⟩,
  ⟨some 6, .bin .gtr (.t 4) (.t 5), none, []⟩,
  ⟨some 3, .move (.t 6), none, []⟩]
def v108 : VFn := ⟨2, [.tmp 3], (.seq (.region false 0 [0, 1] r108_0) (.seq (.region false 0 [3] r108_1) .ret))⟩
/-! loop.example/g00461/spec.VarsOf -/
def r110_0 : List VOper := [
  ⟨some 1, .box 0 (.t 0), none, []⟩,
  ⟨some 2, .move (.c (.d (.sl .nil []))), none, []⟩]
def r110_1 : List VOper := [
  ⟨some 3, .load true 3 (.t 1), none, []⟩,
  ⟨some 4, .buildSlice 1 (.int .i64 0) 0 [], none, []⟩,
  ⟨some 5, .call true (.c (.fn 111 [])) [.t 3, .t 4], none, []⟩,
  ⟨some 2, .move (.t 5), none, []⟩]
def v110 : VFn := ⟨1, [.tmp 2], (.seq (.region false 1 [1] r110_0) (.seq (.region false 0 [2] r110_1) .ret))⟩
/-! loop.example/g00461/spec.l3Vars -/
def r111_0 : List VOper := [
  ⟨some 2, .box 0 (.t 0), none, []⟩,
  ⟨some 4, .move (.c (.d (.sl .nil []))), none, []⟩]
def r111_1 : List VOper := [
  ⟨some 6, .fieldAddr 0 (.t 2), none, []⟩,
  ⟨some 7, .load false 1 (.t 6), none, []⟩,
  ⟨some 8, .bin .eql (.t 7) (.c (.d (.int .i64 (-1)))), none, []⟩]
def r111_2 : List VOper := [
  ⟨some 9, .move (.t 1), none, []⟩,
  ⟨some 10, .fieldAddr 1 (.t 2), none, []⟩,
  ⟨some 11, .load false 1 (.t 10), none, []⟩,
  ⟨some 12, .call true (.c (.fn 112 [])) [.t 9, .t 11], none, []⟩,
  ⟨some 1, .move (.t 12), none, []⟩]
def r111_3 : List VOper := [
  ⟨some 5, .move (.c (.d (.int .i64 0))), none, []⟩]
def r111_4 : List VOper := [
  ⟨some 13, .move (.t 5), none, []⟩,
  ⟨some 14, .fieldAddr 2 (.t 2), none, []⟩,
  ⟨some 15, .load false 1 (.t 14), none, []⟩,
  ⟨some 16, .len false (.t 15), none, []⟩,
  ⟨some 17, .bin .lss (.t 13) (.t 16), none, []⟩]
def r111_6 : List VOper := [
  ⟨some 20, .fieldAddr 2 (.t 2), none, []⟩,
  ⟨some 21, .load false 1 (.t 20), none, []⟩,
  ⟨some 22, .move (.t 5), none, []⟩,
  ⟨some 23, .indexAddr 3 none (.t 21) (.t 22), none, []⟩,
  ⟨some 24, .load true 3 (.t 23), none, []⟩,
  ⟨some 25, .move (.t 1), none, []⟩,
  ⟨some 26, .call true (.c (.fn 111 [])) [.t 24, .t 25], none, []⟩,
  ⟨some 1, .move (.t 26), none, []⟩]
def r111_5 : List VOper := [
  ⟨some 18, .move (.t 5), none, []⟩,
  ⟨some 19, .bin .add (.t 18) (.c (.d (.int .i64 1))), none, []⟩,
  ⟨some 5, .move (.t 19), none, []⟩]
def b111_0 : VCode := (.seq (.seq (.region false 0 [1, 2, 5, 17] r111_4) (.cond (.t 17) .skip (.exit 0))) (.seq (.block 1 (.region false 0 [1, 2, 5] r111_6)) (.region false 0 [1, 2, 5] r111_5)))
def r111_7 : List VOper := [
  ⟨some 27, .move (.t 1), none, []⟩,
  ⟨some 4, .move (.t 27), none, []⟩]
def v111 : VFn := ⟨2, [.tmp 4], (.seq (.region false 1 [1, 2] r111_0) (.seq (.seq (.region false 0 [1, 2, 8] r111_1) (.cond (.t 8) (.region false 0 [1, 2] r111_2) .skip)) (.seq (.seq (.region false 0 [1, 2, 5] r111_3) (.block 0 (.loop [1, 2, 5] b111_0))) (.seq (.region false 0 [4] r111_7) .ret))))⟩
/-! loop.example/g00461/spec.NumAdd -/
def r112_0 : List VOper := [
  ⟨some 4, .move (.c (.d (.sl .nil []))), none, []⟩]
def r112_1 : List VOper := [
  ⟨some 7, .move (.t 0), none, []⟩,
  ⟨some 8, .move (.t 1), none, []⟩,
  ⟨some 9, .call true (.c (.fn 53 [])) [.t 7, .t 8], none, []⟩]
def r112_2 : List VOper := [
  ⟨some 10, .buildSlice 1 (.int .i64 0) 0 [], none, []⟩,
  ⟨some 11, .move (.t 0), none, []⟩,
  ⟨some 12, .append 1 8 (.t 10) (.t 11), none, []⟩,
  ⟨some 4, .move (.t 12), none, []⟩]
def r112_3 : List VOper := [
  ⟨some 5, .move (.c (.d (.int .i64 0))), none, []⟩]
def r112_4 : List VOper := [
  ⟨some 13, .move (.t 5), none, []⟩,
  ⟨some 14, .move (.t 0), none, []⟩,
  ⟨some 15, .len false (.t 14), none, []⟩,
  ⟨some 16, .bin .lss (.t 13) (.t 15), none, []⟩,
  ⟨some 17, .move (.t 16), none, []⟩,
  ⟨some 18, .move (.t 0), some (17, true), []⟩,
  ⟨some 19, .move (.t 5), some (17, true), []⟩,
  ⟨some 20, .indexAddr 1 none (.t 18) (.t 19), some (17, true), []⟩,
  ⟨some 21, .load false 1 (.t 20), some (17, true), []⟩,
  ⟨some 22, .move (.t 1), some (17, true), []⟩,
  ⟨some 23, .bin .lss (.t 21) (.t 22), some (17, true), []⟩,
  ⟨some 24, .pick (.t 17) (.t 23) (.c (.d (.bool false))), none, []⟩]
def r112_5 : List VOper := [
  ⟨some 25, .move (.t 5), none, []⟩,
  ⟨some 26, .bin .add (.t 25) (.c (.d (.int .i64 1))), none, []⟩,
  ⟨some 5, .move (.t 26), none, []⟩]
def b112_0 : VCode := (.seq (.seq (.region false 0 [0, 1, 5, 24] r112_4) (.cond (.t 24) .skip (.exit 0))) (.block 1 (.region false 0 [0, 1, 5] r112_5)))
def r112_6 : List VOper := [
  ⟨some 27, .buildSlice 1 (.int .i64 0) 0 [], none, []⟩,
  ⟨some 28, .move (.t 0), none, []⟩,
  ⟨some 29, .move (.t 5), none, []⟩,
  ⟨some 30, .slice false 1 (.t 28) none (some (.t 29)), none, []⟩,
  ⟨some 31, .append 1 8 (.t 27) (.t 30), none, []⟩,
  ⟨some 6, .move (.t 31), none, []⟩]
def r112_7 : List VOper := [
  ⟨some 32, .move (.t 6), none, []⟩,
  ⟨some 33, .move (.t 1), none, []⟩,
  ⟨some 34, .buildSlice 1 (.int .i64 0) 1 [(0, .t 33)], none, []⟩,
  ⟨some 35, .append 1 8 (.t 32) (.t 34), none, []⟩,
  ⟨some 6, .move (.t 35), none, []⟩]
def r112_8 : List VOper := [
  ⟨some 36, .move (.t 6), none, []⟩,
  ⟨some 37, .move (.t 0), none, []⟩,
  ⟨some 38, .move (.t 5), none, []⟩,
  ⟨some 39, .slice false 1 (.t 37) (some (.t 38)) none, none, []⟩,
  ⟨some 40, .append 1 8 (.t 36) (.t 39), none, []⟩,
  ⟨some 4, .move (.t 40), none, []⟩]
def v112 : VFn := ⟨2, [.tmp 4], (.seq (.region false 0 [0, 1] r112_0) (.seq (.seq (.region false 0 [0, 1, 9] r112_1) (.cond (.t 9) (.seq (.region false 0 [4] r112_2) .ret) .skip)) (.seq (.region false 0 [0, 1, 5] r112_3) (.seq (.block 0 (.loop [0, 1, 5] b112_0)) (.seq (.region false 0 [0, 1, 5, 6] r112_6) (.seq (.region false 0 [0, 5, 6] r112_7) (.seq (.region false 0 [4] r112_8) .ret)))))))⟩
/-! loop.example/g00461/spec.Weight -/
def r117_0 : List VOper := [
  ⟨some 3, .box 0 (.t 1), none, []⟩,
  ⟨some 4, .move (.c (.d (.int .i64 0))), none, []⟩]
def r117_1 : List VOper := [
  ⟨some 5, .move (.c (.d (.int .i64 1))), none, []⟩]
def r117_2 : List VOper := [
  ⟨some 7, .move (.t 0), none, []⟩,
  ⟨some 8, .fieldAddr 0 (.t 3), none, []⟩,
  ⟨some 9, .load false 1 (.t 8), none, []⟩,
  ⟨some 10, .call true (.c (.fn 33 [])) [.t 7, .t 9], none, []⟩,
  ⟨some 11, .move (.t 10), none, []⟩,
  ⟨some 12, .fieldAddr 2 (.t 3), some (11, true), []⟩,
  ⟨some 13, .load false 1 (.t 12), some (11, true), []⟩,
  ⟨some 14, .len false (.t 13), some (11, true), []⟩,
  ⟨some 15, .bin .gtr (.t 14) (.c (.d (.int .i64 0))), some (11, true), []⟩,
  ⟨some 16, .pick (.t 11) (.t 15) (.c (.d (.bool false))), none, []⟩]
def r117_3 : List VOper := [
  ⟨some 17, .fieldAddr 2 (.t 3), none, []⟩,
  ⟨some 18, .load false 1 (.t 17), none, []⟩,
  ⟨some 19, .len false (.t 18), none, []⟩,
  ⟨some 20, .bin .sub (.t 19) (.c (.d (.int .i64 1))), none, []⟩,
  ⟨some 5, .move (.t 20), none, []⟩]
def r117_4 : List VOper := [
  ⟨some 6, .move (.c (.d (.int .i64 0))), none, []⟩]
def r117_5 : List VOper := [
  ⟨some 21, .move (.t 6), none, []⟩,
  ⟨some 22, .fieldAddr 2 (.t 3), none, []⟩,
  ⟨some 23, .load false 1 (.t 22), none, []⟩,
  ⟨some 24, .len false (.t 23), none, []⟩,
  ⟨some 25, .bin .lss (.t 21) (.t 24), none, []⟩]
def r117_7 : List VOper := [
  ⟨some 28, .move (.t 5), none, []⟩,
  ⟨some 29, .move (.t 0), none, []⟩,
  ⟨some 30, .fieldAddr 2 (.t 3), none, []⟩,
  ⟨some 31, .load false 1 (.t 30), none, []⟩,
  ⟨some 32, .move (.t 6), none, []⟩,
  ⟨some 33, .indexAddr 3 none (.t 31) (.t 32), none, []⟩,
  ⟨some 34, .load true 3 (.t 33), none, []⟩,
  ⟨some 35, .call true (.c (.fn 117 [])) [.t 29, .t 34], none, []⟩,
  ⟨some 36, .bin .add (.t 28) (.t 35), none, []⟩,
  ⟨some 5, .move (.t 36), none, []⟩]
def r117_6 : List VOper := [
  ⟨some 26, .move (.t 6), none, []⟩,
  ⟨some 27, .bin .add (.t 26) (.c (.d (.int .i64 1))), none, []⟩,
  ⟨some 6, .move (.t 27), none, []⟩]
def b117_0 : VCode := (.seq (.seq (.region false 0 [0, 3, 5, 6, 25] r117_5) (.cond (.t 25) .skip (.exit 0))) (.seq (.block 1 (.region false 0 [0, 3, 5, 6] r117_7)) (.region false 0 [0, 3, 5, 6] r117_6)))
def r117_8 : List VOper := [
  ⟨some 37, .move (.t 5), none, []⟩,
  ⟨some 4, .move (.t 37), none, []⟩]
def v117 : VFn := ⟨2, [.tmp 4], (.seq (.region false 1 [0, 3] r117_0) (.seq (.region false 0 [0, 3, 5] r117_1) (.seq (.seq (.region false 0 [0, 3, 5, 16] r117_2) (.cond (.t 16) (.region false 0 [0, 3, 5] r117_3) .skip)) (.seq (.seq (.region false 0 [0, 3, 5, 6] r117_4) (.block 0 (.loop [0, 3, 5, 6] b117_0))) (.seq (.region false 0 [4] r117_8) .ret)))))⟩
/-! loop.example/g00461/impl.Weight -/
def r118_0 : List VOper := [
  ⟨some 3, .box 0 (.t 1), none, []⟩,
  ⟨some 4, .move (.c (.d (.int .i64 0))), none, []⟩]
def r118_1 : List VOper := [
  ⟨some 5, .move (.c (.d (.int .i64 1))), none, []⟩]
def r118_2 : List VOper := [
  ⟨some 8, .move (.t 0), none, []⟩,
  ⟨some 9, .fieldAddr 0 (.t 3), none, []⟩,
  ⟨some 10, .load false 1 (.t 9), none, []⟩,
  ⟨some 11, .call true (.c (.fn 34 [])) [.t 8, .t 10], none, []⟩,
  ⟨some 12, .move (.t 11), none, []⟩,
  ⟨some 13, .fieldAddr 2 (.t 3), some (12, true), []⟩,
  ⟨some 14, .load false 1 (.t 13), some (12, true), []⟩,
  ⟨some 15, .len false (.t 14), some (12, true), []⟩,
  ⟨some 16, .bin .gtr (.t 15) (.c (.d (.int .i64 0))), some (12, true), []⟩,
  ⟨some 17, .pick (.t 12) (.t 16) (.c (.d (.bool false))), none, []⟩]
def r118_3 : List VOper := [
  ⟨some 18, .fieldAddr 2 (.t 3), none, []⟩,
  ⟨some 19, .load false 1 (.t 18), none, []⟩,
  ⟨some 20, .len false (.t 19), none, []⟩,
  ⟨some 21, .bin .sub (.t 20) (.c (.d (.int .i64 1))), none, []⟩,
  ⟨some 5, .move (.t 21), none, []⟩]
def r118_4 : List VOper := [
  ⟨some 22, .fieldAddr 2 (.t 3), none, []⟩,
  ⟨some 23, .load false 1 (.t 22), none, []⟩,
  ⟨some 24, .len false (.t 23), none, []⟩,
  ⟨some 25, .move (.c (.d (.int .i64 0))), none, []⟩]
def r118_5 : List VOper := [
  ⟨some 26, .bin .lss (.t 25) (.t 24), none, []⟩]
def r118_6 : List VOper := [
  ⟨some 27, .indexAddr 3 none (.t 23) (.t 25), none, []⟩,
  ⟨some 28, .load true 3 (.t 27), none, []⟩,
  ⟨some 7, .alloc 0 [.int .i64 0, .int .i64 0, .sl .nil []], none, []⟩,
  ⟨none, .store false 3 (.t 7) (.t 28), none, []⟩]
def r118_7 : List VOper := [
  ⟨some 29, .move (.t 5), none, []⟩,
  ⟨some 30, .move (.t 0), none, []⟩,
  ⟨some 31, .load true 3 (.t 7), none, []⟩,
  ⟨some 32, .call true (.c (.fn 118 [])) [.t 30, .t 31], none, []⟩,
  ⟨some 33, .bin .add (.t 29) (.t 32), none, []⟩,
  ⟨some 5, .move (.t 33), none, []⟩]
def r118_8 : List VOper := [
  ⟨some 34, .bin .add (.t 25) (.c (.d (.int .i64 1))), none, []⟩,
  ⟨some 25, .move (.t 34), none, []⟩]
def b118_0 : VCode := (.seq (.region false 0 [0, 5, 23, 24, 25, 26] r118_5) (.seq (.cond (.t 26) .skip (.exit 0)) (.seq (.block 1 (.seq (.region false 1 [0, 5, 7, 23, 24, 25] r118_6) (.region false 0 [0, 5, 23, 24, 25] r118_7))) (.region false 0 [0, 5, 23, 24, 25] r118_8))))
def r118_9 : List VOper := [
  ⟨some 35, .move (.t 5), none, []⟩,
  ⟨some 4, .move (.t 35), none, []⟩]
def v118 : VFn := ⟨2, [.tmp 4], (.seq (.region false 1 [0, 3] r118_0) (.seq (.region false 0 [0, 3, 5] r118_1) (.seq (.seq (.region false 0 [0, 3, 5, 17] r118_2) (.cond (.t 17) (.region false 0 [0, 3, 5] r118_3) .skip)) (.seq (.seq (.region false 0 [0, 5, 23, 24, 25] r118_4) (.block 0 (.loop [0, 5, 23, 24, 25] b118_0))) (.seq (.region false 0 [4] r118_9) .ret)))))⟩
/-! loop.example/g00461/spec.l3Copy -/
def r146_0 : List VOper := [
  ⟨some 1, .box 0 (.t 0), none, []⟩,
  ⟨some 2, .alloc 1 [.int .i64 0, .int .i64 0, .sl .nil []], none, []⟩]
def r146_1 : List VOper := [
  ⟨some 5, .fieldAddr 0 (.t 1), none, []⟩,
  ⟨some 6, .load false 1 (.t 5), none, []⟩,
  ⟨some 7, .fieldAddr 1 (.t 1), none, []⟩,
  ⟨some 8, .load false 1 (.t 7), none, []⟩,
  ⟨some 9, .build [.int .i64 0, .int .i64 0, .sl .nil []] [(0, 1, .t 6), (1, 1, .t 8)], none, []⟩,
  ⟨some 3, .alloc 0 [.int .i64 0, .int .i64 0, .sl .nil []], none, []⟩,
  ⟨none, .store false 3 (.t 3) (.t 9), none, []⟩]
def r146_2 : List VOper := [
  ⟨some 4, .move (.c (.d (.int .i64 0))), none, []⟩]
def r146_3 : List VOper := [
  ⟨some 10, .move (.t 4), none, []⟩,
  ⟨some 11, .fieldAddr 2 (.t 1), none, []⟩,
  ⟨some 12, .load false 1 (.t 11), none, []⟩,
  ⟨some 13, .len false (.t 12), none, []⟩,
  ⟨some 14, .bin .lss (.t 10) (.t 13), none, []⟩]
def r146_5 : List VOper := [
  ⟨some 17, .fieldAddr 2 (.t 3), none, []⟩,
  ⟨some 18, .load false 1 (.t 17), none, [0]⟩,
  ⟨some 19, .fieldAddr 2 (.t 1), none, []⟩,
  ⟨some 20, .load false 1 (.t 19), none, [2]⟩,
  ⟨some 21, .move (.t 4), none, []⟩,
  ⟨some 22, .indexAddr 3 none (.t 20) (.t 21), none, [3, 4]⟩,
  ⟨some 23, .load true 3 (.t 22), none, [5]⟩,
  ⟨some 24, .call true (.c (.fn 146 [])) [.t 23], none, [6]⟩,
  ⟨some 25, .buildSlice 3 (.agg [.int .i64 0, .int .i64 0, .sl .nil []]) 1 [(0, .t 24)], none, [7]⟩,
  ⟨some 26, .append 3 40 (.t 18) (.t 25), none, [1, 7, 8]⟩,
  ⟨some 27, .fieldAddr 2 (.t 3), none, [0, 1, 2, 3, 4, 5, 6, 7, 8, 9]⟩,
  ⟨none, .store false 1 (.t 27) (.t 26), none, [0, 1, 2, 3, 4, 5, 6, 7, 8, 9, 10]⟩]
def r146_4 : List VOper := [
  ⟨some 15, .move (.t 4), none, []⟩,
  ⟨some 16, .bin .add (.t 15) (.c (.d (.int .i64 1))), none, []⟩,
  ⟨some 4, .move (.t 16), none, []⟩]
def b146_0 : VCode := (.seq (.seq (.region false 0 [1, 2, 3, 4, 14] r146_3) (.cond (.t 14) .skip (.exit 0))) (.seq (.block 1 (.region true 0 [1, 2, 3, 4] r146_5)) (.region false 0 [1, 2, 3, 4] r146_4)))
def r146_6 : List VOper := [
  ⟨some 28, .load true 3 (.t 3), none, []⟩,
  ⟨none, .store false 3 (.t 2) (.t 28), none, []⟩]
def v146 : VFn := ⟨1, [.cell 2 true 3], (.seq (.region false 2 [1, 2] r146_0) (.seq (.region false 1 [1, 2, 3] r146_1) (.seq (.seq (.region false 0 [1, 2, 3, 4] r146_2) (.block 0 (.loop [1, 2, 3, 4] b146_0))) (.seq (.region false 0 [2] r146_6) .ret))))⟩
/-! loop.example/g00461/impl.copyTerm -/
def r150_0 : List VOper := [
  ⟨some 1, .box 0 (.t 0), none, []⟩,
  ⟨some 2, .alloc 1 [.int .i64 0, .int .i64 0, .sl .nil []], none, []⟩]
def r150_1 : List VOper := [
  ⟨some 3, .fieldAddr 2 (.t 1), none, []⟩,
  ⟨some 4, .load false 1 (.t 3), none, []⟩,
  ⟨some 5, .call true (.c (.fn 151 [])) [.t 4], none, []⟩,
  ⟨some 6, .fieldAddr 2 (.t 1), none, []⟩,
  ⟨none, .store false 1 (.t 6) (.t 5), none, []⟩]
def r150_2 : List VOper := [
  ⟨some 7, .load true 3 (.t 1), none, []⟩,
  ⟨none, .store false 3 (.t 2) (.t 7), none, []⟩]
def v150 : VFn := ⟨1, [.cell 2 true 3], (.seq (.region false 2 [1, 2] r150_0) (.seq (.region false 0 [1, 2] r150_1) (.seq (.region false 0 [2] r150_2) .ret)))⟩
/-! loop.example/g00461/impl.copyTerms -/
def r151_0 : List VOper := [
  ⟨some 2, .move (.c (.d (.sl .nil []))), none, []⟩]
def r151_1 : List VOper := [
  ⟨some 6, .buildSlice 3 (.agg [.int .i64 0, .int .i64 0, .sl .nil []]) 0 [], none, []⟩,
  ⟨some 3, .move (.t 6), none, []⟩]
def r151_2 : List VOper := [
  ⟨some 7, .move (.t 0), none, []⟩,
  ⟨some 8, .len false (.t 7), none, []⟩,
  ⟨some 9, .move (.c (.d (.int .i64 0))), none, []⟩]
def r151_3 : List VOper := [
  ⟨some 10, .bin .lss (.t 9) (.t 8), none, []⟩]
def r151_4 : List VOper := [
  ⟨some 11, .indexAddr 3 none (.t 7) (.t 9), none, []⟩,
  ⟨some 12, .load true 3 (.t 11), none, []⟩,
  ⟨some 5, .alloc 0 [.int .i64 0, .int .i64 0, .sl .nil []], none, []⟩,
  ⟨none, .store false 3 (.t 5) (.t 12), none, []⟩]
def r151_5 : List VOper := [
  ⟨some 13, .move (.t 3), none, []⟩,
  ⟨some 14, .load true 3 (.t 5), none, []⟩,
  ⟨some 15, .call true (.c (.fn 150 [])) [.t 14], none, []⟩,
  ⟨some 16, .buildSlice 3 (.agg [.int .i64 0, .int .i64 0, .sl .nil []]) 1 [(0, .t 15)], none, []⟩,
  ⟨some 17, .append 3 40 (.t 13) (.t 16), none, []⟩,
  ⟨some 3, .move (.t 17), none, []⟩]
def r151_6 : List VOper := [
  ⟨some 18, .bin .add (.t 9) (.c (.d (.int .i64 1))), none, []⟩,
  ⟨some 9, .move (.t 18), none, []⟩]
def b151_0 : VCode := (.seq (.region false 0 [3, 7, 8, 9, 10] r151_3) (.seq (.cond (.t 10) .skip (.exit 0)) (.seq (.block 1 (.seq (.region false 1 [3, 5, 7, 8, 9] r151_4) (.region false 0 [3, 7, 8, 9] r151_5))) (.region false 0 [3, 7, 8, 9] r151_6))))
def r151_7 : List VOper := [
  ⟨some 19, .move (.t 3), none, []⟩,
  ⟨some 2, .move (.t 19), none, []⟩]
def v151 : VFn := ⟨1, [.tmp 2], (.seq (.region false 0 [0] r151_0) (.seq (.region false 0 [0, 3] r151_1) (.seq (.seq (.region false 0 [3, 7, 8, 9] r151_2) (.block 0 (.loop [3, 7, 8, 9] b151_0))) (.seq (.region false 0 [2] r151_7) .ret))))⟩
/-! loop.example/g00461/impl.Greater -/
def r178_0 : List VOper := [
  ⟨some 4, .box 0 (.t 1), none, []⟩,
  ⟨some 5, .box 1 (.t 2), none, []⟩,
  ⟨some 6, .move (.c (.d (.bool false))), none, []⟩]
def r178_1 : List VOper := [
  ⟨some 11, .move (.t 0), none, []⟩,
  ⟨some 12, .load true 3 (.t 4), none, []⟩,
  ⟨some 13, .call true (.c (.fn 70 [])) [.t 11, .t 12], none, []⟩,
  ⟨some 14, .not (.t 13), none, []⟩,
  ⟨some 15, .move (.t 14), none, []⟩,
  ⟨some 16, .move (.t 0), some (15, false), []⟩,
  ⟨some 17, .load true 3 (.t 5), some (15, false), []⟩,
  ⟨some 18, .call true (.c (.fn 70 [])) [.t 16, .t 17], some (15, false), []⟩,
  ⟨some 19, .not (.t 18), some (15, false), []⟩,
  ⟨some 20, .pick (.t 15) (.c (.d (.bool true))) (.t 19), none, []⟩]
def r178_2 : List VOper := [
  ⟨some 6, .move (.c (.d (.bool false))), none, []⟩]
def r178_3 : List VOper := [
  ⟨some 21, .load true 3 (.t 5), none, []⟩,
  ⟨some 22, .call true (.c (.fn 104 [])) [.t 21], none, []⟩,
  ⟨some 23, .len false (.t 22), none, []⟩,
  ⟨some 24, .move (.c (.d (.int .i64 0))), none, []⟩]
def r178_4 : List VOper := [
  ⟨some 25, .bin .lss (.t 24) (.t 23), none, []⟩]
def r178_5 : List VOper := [
  ⟨some 26, .indexAddr 1 none (.t 22) (.t 24), none, []⟩,
  ⟨some 27, .load false 1 (.t 26), none, []⟩,
  ⟨some 8, .move (.t 27), none, []⟩]
def r178_6 : List VOper := [
  ⟨some 28, .load true 3 (.t 4), none, []⟩,
  ⟨some 29, .move (.t 8), none, []⟩,
  ⟨some 30, .call true (.c (.fn 73 [])) [.t 28, .t 29], none, [0, 1]⟩,
  ⟨some 31, .load true 3 (.t 5), none, []⟩,
  ⟨some 32, .move (.t 8), none, []⟩,
  ⟨some 33, .call true (.c (.fn 73 [])) [.t 31, .t 32], none, [2, 3, 4]⟩,
  ⟨some 34, .bin .lss (.t 30) (.t 33), none, [2, 5]⟩]
def r178_7 : List VOper := [
  ⟨some 6, .move (.c (.d (.bool false))), none, []⟩]
def r178_8 : List VOper := [
  ⟨some 35, .bin .add (.t 24) (.c (.d (.int .i64 1))), none, []⟩,
  ⟨some 24, .move (.t 35), none, []⟩]
def b178_0 : VCode := (.seq (.region false 0 [0, 4, 5, 22, 23, 24, 25] r178_4) (.seq (.cond (.t 25) .skip (.exit 0)) (.seq (.block 1 (.seq (.region false 0 [0, 4, 5, 8, 22, 23, 24] r178_5) (.seq (.region true 0 [0, 4, 5, 22, 23, 24, 34] r178_6) (.cond (.t 34) (.seq (.region false 0 [6] r178_7) .ret) .skip)))) (.region false 0 [0, 4, 5, 22, 23, 24] r178_8))))
def r178_9 : List VOper := [
  ⟨some 36, .move (.t 0), none, []⟩,
  ⟨some 37, .load true 3 (.t 4), none, []⟩,
  ⟨some 38, .call true (.c (.fn 118 [])) [.t 36, .t 37], none, [0, 1]⟩,
  ⟨some 39, .move (.t 0), none, []⟩,
  ⟨some 40, .load true 3 (.t 5), none, []⟩,
  ⟨some 41, .call true (.c (.fn 118 [])) [.t 39, .t 40], none, [2, 3, 4]⟩,
  ⟨some 9, .move (.t 38), none, [0, 1, 2, 5]⟩,
  ⟨some 10, .move (.t 41), none, [0, 1, 2, 3, 4, 5, 6]⟩]
def r178_10 : List VOper := [
  ⟨some 42, .move (.t 9), none, []⟩,
  ⟨some 43, .move (.t 10), none, []⟩,
  ⟨some 44, .bin .gtr (.t 42) (.t 43), none, []⟩,
  ⟨some 45, .move (.t 44), none, []⟩,
  ⟨some 46, .move (.t 9), some (45, false), []⟩,
  ⟨some 47, .move (.t 10), some (45, false), []⟩,
  ⟨some 48, .bin .eql (.t 46) (.t 47), some (45, false), []⟩,
  ⟨some 49, .move (.t 48), some (45, false), []⟩,
  ⟨some 50, .load true 3 (.t 4), some (49, true), []⟩,
  ⟨some 51, .call true (.c (.fn 103 [])) [.t 50], some (49, true), []⟩,
  ⟨some 52, .pick (.t 49) (.t 51) (.c (.d (.bool false))), some (45, false), []⟩,
  ⟨some 53, .move (.t 52), some (45, false), []⟩,
  ⟨some 54, .load true 3 (.t 5), some (53, true), []⟩,
  ⟨some 55, .call true (.c (.fn 103 [])) [.t 54], some (53, true), []⟩,
  ⟨some 56, .pick (.t 53) (.t 55) (.c (.d (.bool false))), some (45, false), []⟩,
  ⟨some 57, .move (.t 56), some (45, false), []⟩,
  ⟨some 58, .load true 3 (.t 5), some (57, true), []⟩,
  ⟨some 59, .load true 3 (.t 4), some (57, true), []⟩,
  ⟨some 60, .call true (.c (.fn 79 [])) [.t 58, .t 59], some (57, true), []⟩,
  ⟨some 61, .pick (.t 57) (.t 60) (.c (.d (.bool false))), some (45, false), []⟩,
  ⟨some 62, .pick (.t 45) (.c (.d (.bool true))) (.t 61), none, []⟩,
  ⟨some 6, .move (.t 62), none, []⟩]
def v178 : VFn := ⟨3, [.tmp 6], (.seq (.region false 2 [0, 4, 5] r178_0) (.seq (.seq (.region false 0 [0, 4, 5, 20] r178_1) (.cond (.t 20) (.seq (.region false 0 [6] r178_2) .ret) .skip)) (.seq (.seq (.region false 0 [0, 4, 5, 22, 23, 24] r178_3) (.block 0 (.loop [0, 4, 5, 22, 23, 24] b178_0))) (.seq (.region true 0 [4, 5, 9, 10] r178_9) (.seq (.region false 0 [6] r178_10) .ret)))))⟩
/-! loop.example/g00461/spec.Greater -/
def r179_0 : List VOper := [
  ⟨some 4, .box 0 (.t 1), none, []⟩,
  ⟨some 5, .box 1 (.t 2), none, []⟩,
  ⟨some 6, .move (.c (.d (.bool false))), none, []⟩]
def r179_1 : List VOper := [
  ⟨some 11, .move (.t 0), none, []⟩,
  ⟨some 12, .load true 3 (.t 4), none, []⟩,
  ⟨some 13, .call true (.c (.fn 80 [])) [.t 11, .t 12], none, []⟩,
  ⟨some 14, .not (.t 13), none, []⟩,
  ⟨some 15, .move (.t 14), none, []⟩,
  ⟨some 16, .move (.t 0), some (15, false), []⟩,
  ⟨some 17, .load true 3 (.t 5), some (15, false), []⟩,
  ⟨some 18, .call true (.c (.fn 80 [])) [.t 16, .t 17], some (15, false), []⟩,
  ⟨some 19, .not (.t 18), some (15, false), []⟩,
  ⟨some 20, .pick (.t 15) (.c (.d (.bool true))) (.t 19), none, []⟩]
def r179_2 : List VOper := [
  ⟨some 6, .move (.c (.d (.bool false))), none, []⟩]
def r179_3 : List VOper := [
  ⟨some 21, .load true 3 (.t 5), none, []⟩,
  ⟨some 22, .call true (.c (.fn 110 [])) [.t 21], none, []⟩,
  ⟨some 7, .move (.t 22), none, []⟩]
def r179_4 : List VOper := [
  ⟨some 8, .move (.c (.d (.int .i64 0))), none, []⟩]
def r179_5 : List VOper := [
  ⟨some 23, .move (.t 8), none, []⟩,
  ⟨some 24, .move (.t 7), none, []⟩,
  ⟨some 25, .len false (.t 24), none, []⟩,
  ⟨some 26, .bin .lss (.t 23) (.t 25), none, []⟩]
def r179_7 : List VOper := [
  ⟨some 29, .load true 3 (.t 4), none, []⟩,
  ⟨some 30, .move (.t 7), none, []⟩,
  ⟨some 31, .move (.t 8), none, []⟩,
  ⟨some 32, .indexAddr 1 none (.t 30) (.t 31), none, [1, 2]⟩,
  ⟨some 33, .load false 1 (.t 32), none, [3]⟩,
  ⟨some 34, .call true (.c (.fn 81 [])) [.t 29, .t 33], none, [0, 4]⟩,
  ⟨some 35, .load true 3 (.t 5), none, []⟩,
  ⟨some 36, .move (.t 7), none, []⟩,
  ⟨some 37, .move (.t 8), none, []⟩,
  ⟨some 38, .indexAddr 1 none (.t 36) (.t 37), none, [7, 8]⟩,
  ⟨some 39, .load false 1 (.t 38), none, [9]⟩,
  ⟨some 40, .call true (.c (.fn 81 [])) [.t 35, .t 39], none, [5, 6, 10]⟩,
  ⟨some 41, .bin .lss (.t 34) (.t 40), none, [5, 11]⟩]
def r179_8 : List VOper := [
  ⟨some 6, .move (.c (.d (.bool false))), none, []⟩]
def r179_6 : List VOper := [
  ⟨some 27, .move (.t 8), none, []⟩,
  ⟨some 28, .bin .add (.t 27) (.c (.d (.int .i64 1))), none, []⟩,
  ⟨some 8, .move (.t 28), none, []⟩]
def b179_0 : VCode := (.seq (.seq (.region false 0 [0, 4, 5, 7, 8, 26] r179_5) (.cond (.t 26) .skip (.exit 0))) (.seq (.block 1 (.seq (.region true 0 [0, 4, 5, 7, 8, 41] r179_7) (.cond (.t 41) (.seq (.region false 0 [6] r179_8) .ret) .skip))) (.region false 0 [0, 4, 5, 7, 8] r179_6)))
def r179_9 : List VOper := [
  ⟨some 42, .move (.t 0), none, []⟩,
  ⟨some 43, .load true 3 (.t 4), none, []⟩,
  ⟨some 44, .call true (.c (.fn 117 [])) [.t 42, .t 43], none, [0, 1]⟩,
  ⟨some 45, .move (.t 0), none, []⟩,
  ⟨some 46, .load true 3 (.t 5), none, []⟩,
  ⟨some 47, .call true (.c (.fn 117 [])) [.t 45, .t 46], none, [2, 3, 4]⟩,
  ⟨some 9, .move (.t 44), none, [0, 1, 2, 5]⟩,
  ⟨some 10, .move (.t 47), none, [0, 1, 2, 3, 4, 5, 6]⟩]
def r179_10 : List VOper := [
  ⟨some 48, .move (.t 9), none, []⟩,
  ⟨some 49, .move (.t 10), none, []⟩,
  ⟨some 50, .bin .gtr (.t 48) (.t 49), none, []⟩,
  ⟨some 51, .move (.t 50), none, []⟩,
  ⟨some 52, .move (.t 9), some (51, false), []⟩,
  ⟨some 53, .move (.t 10), some (51, false), []⟩,
  ⟨some 54, .bin .eql (.t 52) (.t 53), some (51, false), []⟩,
  ⟨some 55, .move (.t 54), some (51, false), []⟩,
  ⟨some 56, .load true 3 (.t 4), some (55, true), []⟩,
  ⟨some 57, .call true (.c (.fn 102 [])) [.t 56], some (55, true), []⟩,
  ⟨some 58, .pick (.t 55) (.t 57) (.c (.d (.bool false))), some (51, false), []⟩,
  ⟨some 59, .move (.t 58), some (51, false), []⟩,
  ⟨some 60, .load true 3 (.t 5), some (59, true), []⟩,
  ⟨some 61, .call true (.c (.fn 102 [])) [.t 60], some (59, true), []⟩,
  ⟨some 62, .pick (.t 59) (.t 61) (.c (.d (.bool false))), some (51, false), []⟩,
  ⟨some 63, .move (.t 62), some (51, false), []⟩,
  ⟨some 64, .load true 3 (.t 5), some (63, true), []⟩,
  ⟨some 65, .load true 3 (.t 4), some (63, true), []⟩,
  ⟨some 66, .call true (.c (.fn 84 [])) [.t 64, .t 65], some (63, true), []⟩,
  ⟨some 67, .pick (.t 63) (.t 66) (.c (.d (.bool false))), some (51, false), []⟩,
  ⟨some 68, .pick (.t 51) (.c (.d (.bool true))) (.t 67), none, []⟩,
  ⟨some 6, .move (.t 68), none, []⟩]
def v179 : VFn := ⟨3, [.tmp 6], (.seq (.region false 2 [0, 4, 5] r179_0) (.seq (.seq (.region false 0 [0, 4, 5, 20] r179_1) (.cond (.t 20) (.seq (.region false 0 [6] r179_2) .ret) .skip)) (.seq (.region false 0 [0, 4, 5, 7] r179_3) (.seq (.seq (.region false 0 [0, 4, 5, 7, 8] r179_4) (.block 0 (.loop [0, 4, 5, 7, 8] b179_0))) (.seq (.region true 0 [4, 5, 9, 10] r179_9) (.seq (.region false 0 [6] r179_10) .ret))))))⟩
/-! loop.example/g00461/laws.markSymS -/
def r243_0 : List VOper := [
  ⟨some 4, .move (.c (.d (.int .i64 0))), none, []⟩]
def r243_1 : List VOper := [
  ⟨some 5, .move (.c (.d (.int .i64 0))), none, []⟩]
def r243_2 : List VOper := [
  ⟨some 6, .move (.t 5), none, []⟩,
  ⟨some 7, .move (.t 0), none, []⟩,
  ⟨some 8, .len false (.t 7), none, []⟩,
  ⟨some 9, .bin .lss (.t 6) (.t 8), none, []⟩]
def r243_4 : List VOper := [
  ⟨some 12, .move (.t 0), none, []⟩,
  ⟨some 13, .move (.t 5), none, []⟩,
  ⟨some 14, .move (.t 1), none, []⟩,
  ⟨some 15, .call false (.c (.fn 294 [])) [.t 14], none, []⟩,
  ⟨some 16, .indexAddr 3 none (.t 12) (.t 13), none, []⟩,
  ⟨some 17, .fieldAddr 0 (.t 16), none, []⟩,
  ⟨none, .store false 1 (.t 17) (.t 15), none, []⟩]
def r243_5 : List VOper := [
  ⟨some 18, .move (.t 1), none, []⟩,
  ⟨some 19, .bin .add (.t 18) (.c (.d (.int .i64 1))), none, []⟩,
  ⟨some 1, .move (.t 19), none, []⟩]
def r243_6 : List VOper := [
  ⟨some 20, .move (.t 0), none, []⟩,
  ⟨some 21, .move (.t 5), none, []⟩,
  ⟨some 22, .move (.t 1), none, []⟩,
  ⟨some 23, .indexAddr 3 none (.t 20) (.t 21), none, []⟩,
  ⟨some 24, .fieldAddr 1 (.t 23), none, []⟩,
  ⟨none, .store false 1 (.t 24) (.t 22), none, []⟩]
def r243_7 : List VOper := [
  ⟨some 25, .move (.t 1), none, []⟩,
  ⟨some 26, .bin .add (.t 25) (.c (.d (.int .i64 1))), none, []⟩,
  ⟨some 1, .move (.t 26), none, []⟩]
def r243_8 : List VOper := [
  ⟨some 27, .move (.t 0), none, []⟩,
  ⟨some 28, .move (.t 5), none, []⟩,
  ⟨some 29, .move (.t 1), none, []⟩,
  ⟨some 30, .bin .rem (.t 29) (.c (.d (.int .i64 3))), none, []⟩,
  ⟨some 31, .bin .eql (.t 30) (.c (.d (.int .i64 0))), none, []⟩,
  ⟨some 32, .indexAddr 3 none (.t 27) (.t 28), none, []⟩,
  ⟨some 33, .fieldAddr 2 (.t 32), none, []⟩,
  ⟨none, .store false 1 (.t 33) (.t 31), none, []⟩]
def r243_9 : List VOper := [
  ⟨some 34, .move (.t 1), none, []⟩,
  ⟨some 35, .bin .add (.t 34) (.c (.d (.int .i64 1))), none, []⟩,
  ⟨some 1, .move (.t 35), none, []⟩]
def r243_3 : List VOper := [
  ⟨some 10, .move (.t 5), none, []⟩,
  ⟨some 11, .bin .add (.t 10) (.c (.d (.int .i64 1))), none, []⟩,
  ⟨some 5, .move (.t 11), none, []⟩]
def b243_0 : VCode := (.seq (.seq (.region false 0 [0, 1, 5, 9] r243_2) (.cond (.t 9) .skip (.exit 0))) (.seq (.block 1 (.seq (.region false 0 [0, 1, 5] r243_4) (.seq (.region false 0 [0, 1, 5] r243_5) (.seq (.region false 0 [0, 1, 5] r243_6) (.seq (.region false 0 [0, 1, 5] r243_7) (.seq (.region false 0 [0, 1, 5] r243_8) (.region false 0 [0, 1, 5] r243_9))))))) (.region false 0 [0, 1, 5] r243_3)))
def r243_10 : List VOper := [
  ⟨some 36, .move (.t 1), none, []⟩,
  ⟨some 4, .move (.t 36), none, []⟩]
def v243 : VFn := ⟨2, [.tmp 4], (.seq (.region false 0 [0, 1] r243_0) (.seq (.seq (.region false 0 [0, 1, 5] r243_1) (.block 0 (.loop [0, 1, 5] b243_0))) (.seq (.region false 0 [4] r243_10) .ret)))⟩
/-! loop.example/g00461/laws.markTermS -/
def r244_0 : List VOper := [
  ⟨some 4, .move (.c (.d (.int .i64 0))), none, []⟩]
def r244_1 : List VOper := [
  ⟨some 5, .move (.c (.d (.int .i64 0))), none, []⟩]
def r244_2 : List VOper := [
  ⟨some 6, .move (.t 5), none, []⟩,
  ⟨some 7, .move (.t 0), none, []⟩,
  ⟨some 8, .len false (.t 7), none, []⟩,
  ⟨some 9, .bin .lss (.t 6) (.t 8), none, []⟩]
def r244_4 : List VOper := [
  ⟨some 12, .move (.t 0), none, []⟩,
  ⟨some 13, .move (.t 5), none, []⟩,
  ⟨some 14, .move (.t 1), none, []⟩,
  ⟨some 15, .indexAddr 3 none (.t 12) (.t 13), none, []⟩,
  ⟨some 16, .fieldAddr 0 (.t 15), none, []⟩,
  ⟨none, .store false 1 (.t 16) (.t 14), none, []⟩]
def r244_5 : List VOper := [
  ⟨some 17, .move (.t 1), none, []⟩,
  ⟨some 18, .bin .add (.t 17) (.c (.d (.int .i64 1))), none, []⟩,
  ⟨some 1, .move (.t 18), none, []⟩]
def r244_6 : List VOper := [
  ⟨some 19, .move (.t 0), none, []⟩,
  ⟨some 20, .move (.t 5), none, []⟩,
  ⟨some 21, .move (.t 1), none, []⟩,
  ⟨some 22, .indexAddr 3 none (.t 19) (.t 20), none, []⟩,
  ⟨some 23, .fieldAddr 1 (.t 22), none, []⟩,
  ⟨none, .store false 1 (.t 23) (.t 21), none, []⟩]
def r244_7 : List VOper := [
  ⟨some 24, .move (.t 1), none, []⟩,
  ⟨some 25, .bin .add (.t 24) (.c (.d (.int .i64 1))), none, []⟩,
  ⟨some 1, .move (.t 25), none, []⟩]
def r244_8 : List VOper := [
  ⟨some 26, .move (.t 0), none, []⟩,
  ⟨some 27, .move (.t 5), none, []⟩,
  ⟨some 28, .indexAddr 3 none (.t 26) (.t 27), none, []⟩,
  ⟨some 29, .fieldAddr 2 (.t 28), none, []⟩,
  ⟨some 30, .load false 1 (.t 29), none, []⟩,
  ⟨some 31, .move (.t 1), none, []⟩,
  ⟨some 32, .call false (.c (.fn 244 [])) [.t 30, .t 31], none, []⟩,
  ⟨some 1, .move (.t 32), none, []⟩]
def r244_3 : List VOper := [
  ⟨some 10, .move (.t 5), none, []⟩,
  ⟨some 11, .bin .add (.t 10) (.c (.d (.int .i64 1))), none, []⟩,
  ⟨some 5, .move (.t 11), none, []⟩]
def b244_0 : VCode := (.seq (.seq (.region false 0 [0, 1, 5, 9] r244_2) (.cond (.t 9) .skip (.exit 0))) (.seq (.block 1 (.seq (.region false 0 [0, 1, 5] r244_4) (.seq (.region false 0 [0, 1, 5] r244_5) (.seq (.region false 0 [0, 1, 5] r244_6) (.seq (.region false 0 [0, 1, 5] r244_7) (.region false 0 [0, 1, 5] r244_8)))))) (.region false 0 [0, 1, 5] r244_3)))
def r244_9 : List VOper := [
  ⟨some 33, .move (.t 1), none, []⟩,
  ⟨some 4, .move (.t 33), none, []⟩]
def v244 : VFn := ⟨2, [.tmp 4], (.seq (.region false 0 [0, 1] r244_0) (.seq (.seq (.region false 0 [0, 1, 5] r244_1) (.block 0 (.loop [0, 1, 5] b244_0))) (.seq (.region false 0 [4] r244_9) .ret)))⟩
/-! loop.example/g00461/laws.heldTermS -/
def r292_0 : List VOper := [
  ⟨some 4, .move (.c (.d (.int .i64 0))), none, []⟩]
def r292_1 : List VOper := [
  ⟨some 5, .move (.c (.d (.int .i64 0))), none, []⟩]
def r292_2 : List VOper := [
  ⟨some 6, .move (.t 5), none, []⟩,
  ⟨some 7, .move (.t 0), none, []⟩,
  ⟨some 8, .len false (.t 7), none, []⟩,
  ⟨some 9, .bin .lss (.t 6) (.t 8), none, []⟩]
def r292_4 : List VOper := [
  ⟨some 12, .move (.t 0), none, []⟩,
  ⟨some 13, .move (.t 5), none, []⟩,
  ⟨some 14, .indexAddr 3 none (.t 12) (.t 13), none, []⟩,
  ⟨some 15, .fieldAddr 0 (.t 14), none, []⟩,
  ⟨some 16, .load false 1 (.t 15), none, []⟩,
  ⟨some 17, .move (.t 1), none, []⟩,
  ⟨some 18, .bin .neq (.t 16) (.t 17), none, []⟩]
def r292_5 : List VOper := [
  ⟨some 4, .move (.c (.d (.int .i64 (-1)))), none, []⟩]
def r292_6 : List VOper := [
  ⟨some 19, .move (.t 1), none, []⟩,
  ⟨some 20, .bin .add (.t 19) (.c (.d (.int .i64 1))), none, []⟩,
  ⟨some 1, .move (.t 20), none, []⟩]
def r292_7 : List VOper := [
  ⟨some 21, .move (.t 0), none, []⟩,
  ⟨some 22, .move (.t 5), none, []⟩,
  ⟨some 23, .indexAddr 3 none (.t 21) (.t 22), none, []⟩,
  ⟨some 24, .fieldAddr 1 (.t 23), none, []⟩,
  ⟨some 25, .load false 1 (.t 24), none, []⟩,
  ⟨some 26, .move (.t 1), none, []⟩,
  ⟨some 27, .bin .neq (.t 25) (.t 26), none, []⟩]
def r292_8 : List VOper := [
  ⟨some 4, .move (.c (.d (.int .i64 (-1)))), none, []⟩]
def r292_9 : List VOper := [
  ⟨some 28, .move (.t 1), none, []⟩,
  ⟨some 29, .bin .add (.t 28) (.c (.d (.int .i64 1))), none, []⟩,
  ⟨some 1, .move (.t 29), none, []⟩]
def r292_10 : List VOper := [
  ⟨some 30, .move (.t 0), none, []⟩,
  ⟨some 31, .move (.t 5), none, []⟩,
  ⟨some 32, .indexAddr 3 none (.t 30) (.t 31), none, []⟩,
  ⟨some 33, .fieldAddr 2 (.t 32), none, []⟩,
  ⟨some 34, .load false 1 (.t 33), none, []⟩,
  ⟨some 35, .move (.t 1), none, []⟩,
  ⟨some 36, .call false (.c (.fn 292 [])) [.t 34, .t 35], none, []⟩,
  ⟨some 1, .move (.t 36), none, []⟩]
def r292_11 : List VOper := [
  ⟨some 37, .move (.t 1), none, []⟩,
  ⟨some 38, .bin .lss (.t 37) (.c (.d (.int .i64 0))), none, []⟩]
def r292_12 : List VOper := [
  ⟨some 4, .move (.c (.d (.int .i64 (-1)))), none, []⟩]
def r292_3 : List VOper := [
  ⟨some 10, .move (.t 5), none, []⟩,
  ⟨some 11, .bin .add (.t 10) (.c (.d (.int .i64 1))), none, []⟩,
  ⟨some 5, .move (.t 11), none, []⟩]
def b292_0 : VCode := (.seq (.seq (.region false 0 [0, 1, 5, 9] r292_2) (.cond (.t 9) .skip (.exit 0))) (.seq (.block 1 (.seq (.seq (.region false 0 [0, 1, 5, 18] r292_4) (.cond (.t 18) (.seq (.region false 0 [4] r292_5) .ret) .skip)) (.seq (.region false 0 [0, 1, 5] r292_6) (.seq (.seq (.region false 0 [0, 1, 5, 27] r292_7) (.cond (.t 27) (.seq (.region false 0 [4] r292_8) .ret) .skip)) (.seq (.region false 0 [0, 1, 5] r292_9) (.seq (.region false 0 [0, 1, 5] r292_10) (.seq (.region false 0 [0, 1, 5, 38] r292_11) (.cond (.t 38) (.seq (.region false 0 [4] r292_12) .ret) .skip)))))))) (.region false 0 [0, 1, 5] r292_3)))
def r292_13 : List VOper := [
  ⟨some 39, .move (.t 1), none, []⟩,
  ⟨some 4, .move (.t 39), none, []⟩]
def v292 : VFn := ⟨2, [.tmp 4], (.seq (.region false 0 [0, 1] r292_0) (.seq (.seq (.region false 0 [0, 1, 5] r292_1) (.block 0 (.loop [0, 1, 5] b292_0))) (.seq (.region false 0 [4] r292_13) .ret)))⟩
/-! loop.example/g00461/laws.markText -/
def r294_0 : List VOper := [
  ⟨some 2, .move (.c (.d (.str ⟨#[]⟩))), none, []⟩]
def r294_1 : List VOper := [
  ⟨some 4, .move (.t 0), none, []⟩,
  ⟨some 5, .bin .leq (.t 4) (.c (.d (.int .i64 0))), none, []⟩]
def r294_2 : List VOper := [
  ⟨some 2, .move (.c (.d (.str ⟨#[109, 48]⟩))), none, []⟩]
def r294_3 : List VOper := [
  ⟨some 3, .move (.c (.d (.str ⟨#[]⟩))), none, []⟩]
def r294_4 : List VOper := [
  ⟨some 6, .move (.t 0), none, []⟩,
  ⟨some 7, .bin .gtr (.t 6) (.c (.d (.int .i64 0))), none, []⟩]
def r294_5 : List VOper := [
  ⟨some 8, .move (.t 0), none, []⟩,
  ⟨some 9, .bin .rem (.t 8) (.c (.d (.int .i64 10))), none, []⟩,
  ⟨some 10, .bin .add (.c (.d (.int .i64 48))) (.t 9), none, []⟩,
  ⟨some 11, .conv (.kind .u8) (.t 10), none, []⟩,
  ⟨some 12, .buildSlice 1 (.int .u8 0) 1 [(0, .t 11)], none, []⟩,
  ⟨some 13, .conv .bytes (.t 12), none, []⟩,
  ⟨some 14, .move (.t 3), none, []⟩,
  ⟨some 15, .bin .add (.t 13) (.t 14), none, []⟩,
  ⟨some 3, .move (.t 15), none, []⟩]
def r294_6 : List VOper := [
  ⟨some 16, .move (.t 0), none, []⟩,
  ⟨some 17, .bin .quo (.t 16) (.c (.d (.int .i64 10))), none, []⟩,
  ⟨some 0, .move (.t 17), none, []⟩]
def b294_0 : VCode := (.seq (.seq (.region false 0 [0, 3, 7] r294_4) (.cond (.t 7) .skip (.exit 0))) (.block 1 (.seq (.region false 0 [0, 3] r294_5) (.region false 0 [0, 3] r294_6))))
def r294_7 : List VOper := [
  ⟨some 18, .move (.t 3), none, []⟩,
  ⟨some 19, .bin .add (.c (.d (.str ⟨#[109]⟩))) (.t 18), none, []⟩,
  ⟨some 2, .move (.t 19), none, []⟩]
def v294 : VFn := ⟨1, [.tmp 2], (.seq (.region false 0 [0] r294_0) (.seq (.seq (.region false 0 [0, 5] r294_1) (.cond (.t 5) (.seq (.region false 0 [2] r294_2) .ret) .skip)) (.seq (.region false 0 [0, 3] r294_3) (.seq (.block 0 (.loop [0, 3] b294_0)) (.seq (.region false 0 [2] r294_7) .ret)))))⟩
/-! loop.example/g00461/laws.markTerm -/
def r308_0 : List VOper := [
  ⟨some 2, .box 0 (.t 0), none, []⟩,
  ⟨some 4, .move (.c (.d (.int .i64 0))), none, []⟩]
def r308_1 : List VOper := [
  ⟨some 5, .fieldAddr 2 (.t 2), none, []⟩,
  ⟨some 6, .load false 1 (.t 5), none, []⟩,
  ⟨some 7, .move (.t 1), none, []⟩,
  ⟨some 8, .call false (.c (.fn 244 [])) [.t 6, .t 7], none, []⟩,
  ⟨some 1, .move (.t 8), none, []⟩]
def r308_2 : List VOper := [
  ⟨some 9, .move (.t 1), none, []⟩,
  ⟨some 4, .move (.t 9), none, []⟩]
def v308 : VFn := ⟨2, [.tmp 4], (.seq (.region false 1 [1, 2] r308_0) (.seq (.region false 0 [1] r308_1) (.seq (.region false 0 [4] r308_2) .ret)))⟩
/-! loop.example/g00461/laws.FnExactOriented -/
def r338_0 : List VOper := [
  ⟨some 4, .box 0 (.t 1), none, []⟩,
  ⟨some 5, .box 1 (.t 2), none, []⟩,
  ⟨some 6, .move (.c (.d (.bool false))), none, []⟩]
def r338_1 : List VOper := [
  ⟨some 7, .move (.c (.d (.int .i64 1048576))), none, []⟩]
def r338_2 : List VOper := [
  ⟨some 23, .move (.t 0), none, []⟩,
  ⟨some 24, .move (.t 7), none, []⟩,
  ⟨some 25, .call true (.c (.fn 11 [])) [.t 23, .t 24], none, []⟩,
  ⟨some 7, .move (.t 25), none, []⟩]
def r338_3 : List VOper := [
  ⟨some 26, .move (.t 7), none, []⟩,
  ⟨some 27, .bin .lss (.t 26) (.c (.d (.int .i64 0))), none, []⟩]
def r338_4 : List VOper := [
  ⟨some 6, .move (.c (.d (.bool true))), none, []⟩]
def r338_5 : List VOper := [
  ⟨some 28, .load true 3 (.t 4), none, []⟩,
  ⟨some 29, .move (.t 7), none, []⟩,
  ⟨some 30, .call true (.c (.fn 1 [])) [.t 28, .t 29], none, []⟩,
  ⟨some 7, .move (.t 30), none, []⟩]
def r338_6 : List VOper := [
  ⟨some 31, .move (.t 7), none, []⟩,
  ⟨some 32, .bin .lss (.t 31) (.c (.d (.int .i64 0))), none, []⟩]
def r338_7 : List VOper := [
  ⟨some 6, .move (.c (.d (.bool true))), none, []⟩]
def r338_8 : List VOper := [
  ⟨some 33, .load true 3 (.t 5), none, []⟩,
  ⟨some 34, .move (.t 7), none, []⟩,
  ⟨some 35, .call true (.c (.fn 1 [])) [.t 33, .t 34], none, []⟩,
  ⟨some 7, .move (.t 35), none, []⟩]
def r338_9 : List VOper := [
  ⟨some 36, .move (.t 7), none, []⟩,
  ⟨some 37, .bin .lss (.t 36) (.c (.d (.int .i64 0))), none, []⟩]
def r338_10 : List VOper := [
  ⟨some 6, .move (.c (.d (.bool true))), none, []⟩]
def r338_11 : List VOper := [
  ⟨some 39, .move (.t 0), none, []⟩,
  ⟨some 40, .call true (.c (.fn 12 [])) [.t 39], none, [0]⟩,
  ⟨some 41, .load true 3 (.t 4), none, []⟩,
  ⟨some 42, .call true (.c (.fn 2 [])) [.t 41], none, [1, 2]⟩,
  ⟨some 43, .load true 3 (.t 5), none, []⟩,
  ⟨some 44, .call true (.c (.fn 2 [])) [.t 43], none, [3, 4]⟩,
  ⟨some 45, .call true (.c (.fn 339 [])) [.t 40, .t 42, .t 44], none, [1, 3, 5]⟩,
  ⟨some 38, .move (.t 45), none, [6]⟩,
  ⟨some 46, .extract (.t 38) 0, none, [7]⟩,
  ⟨some 47, .extract (.t 38) 1, none, [7]⟩,
  ⟨some 48, .extract (.t 38) 2, none, [7]⟩,
  ⟨some 8, .alloc 0 [.int .i64 0, .int .i64 0, .sl .nil []], none, []⟩,
  ⟨some 9, .alloc 1 [.int .i64 0, .int .i64 0, .sl .nil []], none, []⟩,
  ⟨none, .store true 3 (.t 8) (.t 46), none, [0, 1, 2, 3, 4, 5, 6, 7, 8, 11, 12]⟩,
  ⟨none, .store true 3 (.t 9) (.t 47), none, [0, 1, 2, 3, 4, 5, 6, 7, 8, 9, 11, 12, 13]⟩,
  ⟨some 10, .move (.t 48), none, [0, 1, 2, 3, 4, 5, 6, 7, 8, 9, 10, 11, 12, 13, 14]⟩]
def r338_12 : List VOper := [
  ⟨some 49, .move (.t 0), none, []⟩,
  ⟨some 50, .callT true (.c (.fn 12 [])) [.t 49], none, []⟩,
  ⟨some 11, .move (.t 50), none, []⟩]
def r338_13 : List VOper := [
  ⟨some 51, .load true 3 (.t 4), none, []⟩,
  ⟨some 52, .callT true (.c (.fn 2 [])) [.t 51], none, []⟩,
  ⟨some 12, .allocE [.int .i64 0, .int .i64 0, .sl .nil []], none, []⟩,
  ⟨none, .store false 3 (.t 12) (.t 52), none, []⟩]
def r338_14 : List VOper := [
  ⟨some 53, .load true 3 (.t 5), none, []⟩,
  ⟨some 54, .callT true (.c (.fn 2 [])) [.t 53], none, []⟩,
  ⟨some 13, .allocE [.int .i64 0, .int .i64 0, .sl .nil []], none, []⟩,
  ⟨none, .store false 3 (.t 13) (.t 54), none, []⟩]
def r338_15 : List VOper := [
  ⟨some 56, .move (.t 11), none, []⟩,
  ⟨some 57, .load true 3 (.t 12), none, []⟩,
  ⟨some 58, .load true 3 (.t 13), none, []⟩,
  ⟨some 59, .callT true (.c (.fn 340 [])) [.t 56, .t 57, .t 58], none, []⟩,
  ⟨some 55, .move (.t 59), none, []⟩,
  ⟨some 60, .extract (.t 55) 0, none, []⟩,
  ⟨some 61, .extract (.t 55) 1, none, []⟩,
  ⟨some 62, .extract (.t 55) 2, none, []⟩,
  ⟨some 14, .allocE [.int .i64 0, .int .i64 0, .sl .nil []], none, []⟩,
  ⟨some 15, .allocE [.int .i64 0, .int .i64 0, .sl .nil []], none, []⟩,
  ⟨none, .store false 3 (.t 14) (.t 60), none, []⟩,
  ⟨none, .store false 3 (.t 15) (.t 61), none, []⟩,
  ⟨some 16, .move (.t 62), none, []⟩]
def r338_16 : List VOper := [
  ⟨some 63, .load true 3 (.t 14), none, []⟩,
  ⟨some 64, .load true 3 (.t 8), none, []⟩,
  ⟨some 65, .callT false (.c (.fn 5 [])) [.t 63, .t 64], none, []⟩,
  ⟨some 66, .not (.t 65), none, []⟩,
  ⟨some 67, .move (.t 66), none, []⟩,
  ⟨some 68, .load true 3 (.t 15), some (67, false), []⟩,
  ⟨some 69, .load true 3 (.t 9), some (67, false), []⟩,
  ⟨some 70, .callT false (.c (.fn 5 [])) [.t 68, .t 69], some (67, false), []⟩,
  ⟨some 71, .not (.t 70), some (67, false), []⟩,
  ⟨some 72, .pick (.t 67) (.c (.d (.bool true))) (.t 71), none, []⟩,
  ⟨some 73, .move (.t 72), none, []⟩,
  ⟨some 74, .move (.t 16), some (73, false), []⟩,
  ⟨some 75, .move (.t 10), some (73, false), []⟩,
  ⟨some 76, .eqB true (.t 74) (.t 75), some (73, false), []⟩,
  ⟨some 77, .pick (.t 73) (.c (.d (.bool true))) (.t 76), none, []⟩]
def r338_17 : List VOper := [
  ⟨some 6, .move (.c (.d (.bool false))), none, []⟩]
def r338_18 : List VOper := [
  ⟨some 78, .move (.t 11), none, []⟩,
  ⟨some 79, .move (.t 0), none, []⟩,
  ⟨some 80, .call true (.c (.fn 12 [])) [.t 79], none, []⟩,
  ⟨some 81, .callT false (.c (.fn 15 [])) [.t 78, .t 80], none, []⟩,
  ⟨some 82, .not (.t 81), none, []⟩]
def r338_19 : List VOper := [
  ⟨some 6, .move (.c (.d (.bool false))), none, []⟩]
def r338_20 : List VOper := [
  ⟨some 83, .load true 3 (.t 12), none, []⟩,
  ⟨some 84, .load true 3 (.t 4), none, []⟩,
  ⟨some 85, .call true (.c (.fn 2 [])) [.t 84], none, [1]⟩,
  ⟨some 86, .callT false (.c (.fn 5 [])) [.t 83, .t 85], none, [0, 2]⟩,
  ⟨some 87, .not (.t 86), none, [3]⟩]
def r338_21 : List VOper := [
  ⟨some 6, .move (.c (.d (.bool false))), none, []⟩]
def r338_22 : List VOper := [
  ⟨some 88, .load true 3 (.t 13), none, []⟩,
  ⟨some 89, .load true 3 (.t 5), none, []⟩,
  ⟨some 90, .call true (.c (.fn 2 [])) [.t 89], none, [1]⟩,
  ⟨some 91, .callT false (.c (.fn 5 [])) [.t 88, .t 90], none, [0, 2]⟩,
  ⟨some 92, .not (.t 91), none, [3]⟩]
def r338_23 : List VOper := [
  ⟨some 6, .move (.c (.d (.bool false))), none, []⟩]
def r338_24 : List VOper := [
  ⟨some 17, .move (.c (.d (.int .i64 1))), none, []⟩]
def r338_25 : List VOper := [
  ⟨some 93, .move (.t 11), none, []⟩,
  ⟨some 94, .move (.t 17), none, []⟩,
  ⟨some 95, .call false (.c (.fn 243 [])) [.t 93, .t 94], none, []⟩,
  ⟨some 17, .move (.t 95), none, []⟩]
def r338_26 : List VOper := [
  ⟨some 96, .load true 3 (.t 12), none, []⟩,
  ⟨some 97, .move (.t 17), none, []⟩,
  ⟨some 98, .call false (.c (.fn 308 [])) [.t 96, .t 97], none, []⟩,
  ⟨some 17, .move (.t 98), none, []⟩]
def r338_27 : List VOper := [
  ⟨some 99, .load true 3 (.t 13), none, []⟩,
  ⟨some 100, .move (.t 17), none, []⟩,
  ⟨some 101, .call false (.c (.fn 308 [])) [.t 99, .t 100], none, []⟩,
  ⟨some 17, .move (.t 101), none, []⟩]
def r338_28 : List VOper := [
  ⟨some 102, .move (.t 17), none, []⟩,
  ⟨some 103, .bin .lss (.t 102) (.c (.d (.int .i64 0))), none, []⟩,
  ⟨some 104, .move (.t 103), none, []⟩,
  ⟨some 105, .load true 3 (.t 14), some (104, false), []⟩,
  ⟨some 106, .load true 3 (.t 8), some (104, false), []⟩,
  ⟨some 107, .callT false (.c (.fn 5 [])) [.t 105, .t 106], some (104, false), []⟩,
  ⟨some 108, .not (.t 107), some (104, false), []⟩,
  ⟨some 109, .pick (.t 104) (.c (.d (.bool true))) (.t 108), none, []⟩,
  ⟨some 110, .move (.t 109), none, []⟩,
  ⟨some 111, .load true 3 (.t 15), some (110, false), []⟩,
  ⟨some 112, .load true 3 (.t 9), some (110, false), []⟩,
  ⟨some 113, .callT false (.c (.fn 5 [])) [.t 111, .t 112], some (110, false), []⟩,
  ⟨some 114, .not (.t 113), some (110, false), []⟩,
  ⟨some 115, .pick (.t 110) (.c (.d (.bool true))) (.t 114), none, []⟩,
  ⟨some 116, .move (.t 115), none, []⟩,
  ⟨some 117, .move (.t 16), some (116, false), []⟩,
  ⟨some 118, .move (.t 10), some (116, false), []⟩,
  ⟨some 119, .eqB true (.t 117) (.t 118), some (116, false), []⟩,
  ⟨some 120, .pick (.t 116) (.c (.d (.bool true))) (.t 119), none, []⟩]
def r338_29 : List VOper := [
  ⟨some 6, .move (.c (.d (.bool false))), none, []⟩]
def r338_30 : List VOper := [
  ⟨some 18, .move (.c (.d (.int .i64 1))), none, []⟩]
def r338_31 : List VOper := [
  ⟨some 121, .load true 3 (.t 14), none, []⟩,
  ⟨some 122, .move (.t 18), none, []⟩,
  ⟨some 123, .call false (.c (.fn 308 [])) [.t 121, .t 122], none, []⟩,
  ⟨some 18, .move (.t 123), none, []⟩]
def r338_32 : List VOper := [
  ⟨some 124, .load true 3 (.t 15), none, []⟩,
  ⟨some 125, .move (.t 18), none, []⟩,
  ⟨some 126, .call false (.c (.fn 308 [])) [.t 124, .t 125], none, []⟩,
  ⟨some 18, .move (.t 126), none, []⟩]
def r338_33 : List VOper := [
  ⟨some 19, .move (.c (.d (.int .i64 1))), none, []⟩]
def r338_34 : List VOper := [
  ⟨some 127, .load true 3 (.t 14), none, []⟩,
  ⟨some 128, .move (.t 19), none, []⟩,
  ⟨some 129, .call false (.c (.fn 341 [])) [.t 127, .t 128], none, []⟩,
  ⟨some 19, .move (.t 129), none, []⟩]
def r338_35 : List VOper := [
  ⟨some 130, .move (.t 19), none, []⟩,
  ⟨some 131, .bin .lss (.t 130) (.c (.d (.int .i64 0))), none, []⟩]
def r338_36 : List VOper := [
  ⟨some 6, .move (.c (.d (.bool false))), none, []⟩]
def r338_37 : List VOper := [
  ⟨some 132, .load true 3 (.t 15), none, []⟩,
  ⟨some 133, .move (.t 19), none, []⟩,
  ⟨some 134, .call false (.c (.fn 341 [])) [.t 132, .t 133], none, []⟩,
  ⟨some 19, .move (.t 134), none, []⟩]
def r338_38 : List VOper := [
  ⟨some 135, .move (.t 19), none, []⟩,
  ⟨some 136, .bin .lss (.t 135) (.c (.d (.int .i64 0))), none, []⟩]
def r338_39 : List VOper := [
  ⟨some 6, .move (.c (.d (.bool false))), none, []⟩]
def r338_40 : List VOper := [
  ⟨some 137, .move (.t 19), none, []⟩,
  ⟨some 138, .move (.t 18), none, []⟩,
  ⟨some 139, .bin .neq (.t 137) (.t 138), none, []⟩]
def r338_41 : List VOper := [
  ⟨some 6, .move (.c (.d (.bool false))), none, []⟩]
def r338_42 : List VOper := [
  ⟨some 141, .move (.t 0), none, []⟩,
  ⟨some 142, .call true (.c (.fn 12 [])) [.t 141], none, [0]⟩,
  ⟨some 143, .load true 3 (.t 4), none, []⟩,
  ⟨some 144, .call true (.c (.fn 2 [])) [.t 143], none, [1, 2]⟩,
  ⟨some 145, .load true 3 (.t 5), none, []⟩,
  ⟨some 146, .call true (.c (.fn 2 [])) [.t 145], none, [3, 4]⟩,
  ⟨some 147, .call true (.c (.fn 340 [])) [.t 142, .t 144, .t 146], none, [1, 3, 5]⟩,
  ⟨some 140, .move (.t 147), none, [6]⟩,
  ⟨some 148, .extract (.t 140) 0, none, [7]⟩,
  ⟨some 149, .extract (.t 140) 1, none, [7]⟩,
  ⟨some 150, .extract (.t 140) 2, none, [7]⟩,
  ⟨some 20, .alloc 0 [.int .i64 0, .int .i64 0, .sl .nil []], none, []⟩,
  ⟨some 21, .alloc 1 [.int .i64 0, .int .i64 0, .sl .nil []], none, []⟩,
  ⟨none, .store true 3 (.t 20) (.t 148), none, [0, 1, 2, 3, 4, 5, 6, 7, 8, 11, 12]⟩,
  ⟨none, .store true 3 (.t 21) (.t 149), none, [0, 1, 2, 3, 4, 5, 6, 7, 8, 9, 11, 12, 13]⟩,
  ⟨some 22, .move (.t 150), none, [0, 1, 2, 3, 4, 5, 6, 7, 8, 9, 10, 11, 12, 13, 14]⟩]
def r338_43 : List VOper := [
  ⟨some 151, .load true 3 (.t 20), none, []⟩,
  ⟨some 152, .load true 3 (.t 8), none, []⟩,
  ⟨some 153, .call true (.c (.fn 5 [])) [.t 151, .t 152], none, []⟩,
  ⟨some 154, .not (.t 153), none, []⟩,
  ⟨some 155, .move (.t 154), none, []⟩,
  ⟨some 156, .load true 3 (.t 21), some (155, false), []⟩,
  ⟨some 157, .load true 3 (.t 9), some (155, false), []⟩,
  ⟨some 158, .call true (.c (.fn 5 [])) [.t 156, .t 157], some (155, false), []⟩,
  ⟨some 159, .not (.t 158), some (155, false), []⟩,
  ⟨some 160, .pick (.t 155) (.c (.d (.bool true))) (.t 159), none, []⟩,
  ⟨some 161, .move (.t 160), none, []⟩,
  ⟨some 162, .move (.t 22), some (161, false), []⟩,
  ⟨some 163, .move (.t 10), some (161, false), []⟩,
  ⟨some 164, .eqB true (.t 162) (.t 163), some (161, false), []⟩,
  ⟨some 165, .pick (.t 161) (.c (.d (.bool true))) (.t 164), none, []⟩]
def r338_44 : List VOper := [
  ⟨some 6, .move (.c (.d (.bool false))), none, []⟩]
def r338_45 : List VOper := [
  ⟨some 19, .move (.c (.d (.int .i64 1))), none, []⟩]
def r338_46 : List VOper := [
  ⟨some 166, .load true 3 (.t 14), none, []⟩,
  ⟨some 167, .move (.t 19), none, []⟩,
  ⟨some 168, .call false (.c (.fn 341 [])) [.t 166, .t 167], none, []⟩,
  ⟨some 19, .move (.t 168), none, []⟩]
def r338_47 : List VOper := [
  ⟨some 169, .move (.t 19), none, []⟩,
  ⟨some 170, .bin .lss (.t 169) (.c (.d (.int .i64 0))), none, []⟩]
def r338_48 : List VOper := [
  ⟨some 6, .move (.c (.d (.bool false))), none, []⟩]
def r338_49 : List VOper := [
  ⟨some 171, .load true 3 (.t 15), none, []⟩,
  ⟨some 172, .move (.t 19), none, []⟩,
  ⟨some 173, .call false (.c (.fn 341 [])) [.t 171, .t 172], none, []⟩,
  ⟨some 19, .move (.t 173), none, []⟩]
def r338_50 : List VOper := [
  ⟨some 174, .move (.t 19), none, []⟩,
  ⟨some 175, .bin .lss (.t 174) (.c (.d (.int .i64 0))), none, []⟩]
def r338_51 : List VOper := [
  ⟨some 6, .move (.c (.d (.bool false))), none, []⟩]
def r338_52 : List VOper := [
  ⟨some 176, .move (.t 19), none, []⟩,
  ⟨some 177, .move (.t 18), none, []⟩,
  ⟨some 178, .bin .neq (.t 176) (.t 177), none, []⟩]
def r338_53 : List VOper := [
  ⟨some 6, .move (.c (.d (.bool false))), none, []⟩]
def r338_54 : List VOper := [
  ⟨some 6, .move (.c (.d (.bool true))), none, []⟩]
def v338 : VFn := ⟨3, [.tmp 6], (.seq (.region false 2 [0, 4, 5] r338_0) (.seq (.region false 0 [0, 4, 5, 7] r338_1) (.seq (.region false 0 [0, 4, 5, 7] r338_2) (.seq (.seq (.region false 0 [0, 4, 5, 7, 27] r338_3) (.cond (.t 27) (.seq (.region false 0 [6] r338_4) .ret) .skip)) (.seq (.region false 0 [0, 4, 5, 7] r338_5) (.seq (.seq (.region false 0 [0, 4, 5, 7, 32] r338_6) (.cond (.t 32) (.seq (.region false 0 [6] r338_7) .ret) .skip)) (.seq (.region false 0 [0, 4, 5, 7] r338_8) (.seq (.seq (.region false 0 [0, 4, 5, 37] r338_9) (.cond (.t 37) (.seq (.region false 0 [6] r338_10) .ret) .skip)) (.seq (.region true 2 [0, 4, 5, 8, 9, 10] r338_11) (.seq (.region false 0 [0, 4, 5, 8, 9, 10, 11] r338_12) (.seq (.region false 0 [0, 4, 5, 8, 9, 10, 11, 12] r338_13) (.seq (.region false 0 [0, 4, 5, 8, 9, 10, 11, 12, 13] r338_14) (.seq (.region false 0 [0, 4, 5, 8, 9, 10, 11, 12, 13, 14, 15, 16] r338_15) (.seq (.seq (.region false 0 [0, 4, 5, 8, 9, 10, 11, 12, 13, 14, 15, 16, 77] r338_16) (.cond (.t 77) (.seq (.region false 0 [6] r338_17) .ret) .skip)) (.seq (.seq (.region false 0 [0, 4, 5, 8, 9, 10, 11, 12, 13, 14, 15, 16, 82] r338_18) (.cond (.t 82) (.seq (.region false 0 [6] r338_19) .ret) .skip)) (.seq (.seq (.region true 0 [0, 4, 5, 8, 9, 10, 11, 12, 13, 14, 15, 16, 87] r338_20) (.cond (.t 87) (.seq (.region false 0 [6] r338_21) .ret) .skip)) (.seq (.seq (.region true 0 [0, 4, 5, 8, 9, 10, 11, 12, 13, 14, 15, 16, 92] r338_22) (.cond (.t 92) (.seq (.region false 0 [6] r338_23) .ret) .skip)) (.seq (.region false 0 [0, 4, 5, 8, 9, 10, 11, 12, 13, 14, 15, 16, 17] r338_24) (.seq (.region false 0 [0, 4, 5, 8, 9, 10, 12, 13, 14, 15, 16, 17] r338_25) (.seq (.region false 0 [0, 4, 5, 8, 9, 10, 13, 14, 15, 16, 17] r338_26) (.seq (.region false 0 [0, 4, 5, 8, 9, 10, 14, 15, 16, 17] r338_27) (.seq (.seq (.region false 0 [0, 4, 5, 8, 9, 10, 14, 15, 120] r338_28) (.cond (.t 120) (.seq (.region false 0 [6] r338_29) .ret) .skip)) (.seq (.region false 0 [0, 4, 5, 8, 9, 10, 14, 15, 18] r338_30) (.seq (.region false 0 [0, 4, 5, 8, 9, 10, 14, 15, 18] r338_31) (.seq (.region false 0 [0, 4, 5, 8, 9, 10, 14, 15, 18] r338_32) (.seq (.region false 0 [0, 4, 5, 8, 9, 10, 14, 15, 18, 19] r338_33) (.seq (.region false 0 [0, 4, 5, 8, 9, 10, 14, 15, 18, 19] r338_34) (.seq (.seq (.region false 0 [0, 4, 5, 8, 9, 10, 14, 15, 18, 19, 131] r338_35) (.cond (.t 131) (.seq (.region false 0 [6] r338_36) .ret) .skip)) (.seq (.region false 0 [0, 4, 5, 8, 9, 10, 14, 15, 18, 19] r338_37) (.seq (.seq (.region false 0 [0, 4, 5, 8, 9, 10, 14, 15, 18, 19, 136] r338_38) (.cond (.t 136) (.seq (.region false 0 [6] r338_39) .ret) .skip)) (.seq (.seq (.region false 0 [0, 4, 5, 8, 9, 10, 14, 15, 18, 139] r338_40) (.cond (.t 139) (.seq (.region false 0 [6] r338_41) .ret) .skip)) (.seq (.region true 2 [8, 9, 10, 14, 15, 18, 20, 21, 22] r338_42) (.seq (.seq (.region false 0 [14, 15, 18, 165] r338_43) (.cond (.t 165) (.seq (.region false 0 [6] r338_44) .ret) .skip)) (.seq (.region false 0 [14, 15, 18, 19] r338_45) (.seq (.region false 0 [15, 18, 19] r338_46) (.seq (.seq (.region false 0 [15, 18, 19, 170] r338_47) (.cond (.t 170) (.seq (.region false 0 [6] r338_48) .ret) .skip)) (.seq (.region false 0 [18, 19] r338_49) (.seq (.seq (.region false 0 [18, 19, 175] r338_50) (.cond (.t 175) (.seq (.region false 0 [6] r338_51) .ret) .skip)) (.seq (.seq (.region false 0 [178] r338_52) (.cond (.t 178) (.seq (.region false 0 [6] r338_53) .ret) .skip)) (.seq (.region false 0 [6] r338_54) .ret))))))))))))))))))))))))))))))))))))))))⟩
/-! loop.example/g00461/spec.Oriented -/
def r339_0 : List VOper := [
  ⟨some 4, .box 0 (.t 1), none, []⟩,
  ⟨some 5, .box 1 (.t 2), none, []⟩,
  ⟨some 6, .alloc 2 [.int .i64 0, .int .i64 0, .sl .nil []], none, []⟩,
  ⟨some 7, .alloc 3 [.int .i64 0, .int .i64 0, .sl .nil []], none, []⟩,
  ⟨some 8, .move (.c (.d (.bool false))), none, []⟩]
def r339_1 : List VOper := [
  ⟨some 9, .move (.t 0), none, []⟩,
  ⟨some 10, .load true 3 (.t 5), none, []⟩,
  ⟨some 11, .load true 3 (.t 4), none, []⟩,
  ⟨some 12, .call true (.c (.fn 179 [])) [.t 9, .t 10, .t 11], none, []⟩]
def r339_2 : List VOper := [
  ⟨some 13, .load true 3 (.t 5), none, []⟩,
  ⟨some 14, .call true (.c (.fn 146 [])) [.t 13], none, [0]⟩,
  ⟨some 15, .load true 3 (.t 4), none, []⟩,
  ⟨some 16, .call true (.c (.fn 146 [])) [.t 15], none, [1, 2]⟩,
  ⟨none, .store false 3 (.t 6) (.t 14), none, [0, 1, 3]⟩,
  ⟨none, .store false 3 (.t 7) (.t 16), none, [0, 1, 2, 3, 4]⟩,
  ⟨some 8, .move (.c (.d (.bool true))), none, [0, 1, 2, 3, 4, 5]⟩]
def r339_3 : List VOper := [
  ⟨some 17, .load true 3 (.t 4), none, []⟩,
  ⟨some 18, .call true (.c (.fn 146 [])) [.t 17], none, [0]⟩,
  ⟨some 19, .load true 3 (.t 5), none, []⟩,
  ⟨some 20, .call true (.c (.fn 146 [])) [.t 19], none, [1, 2]⟩,
  ⟨some 21, .move (.t 0), none, []⟩,
  ⟨some 22, .load true 3 (.t 4), none, []⟩,
  ⟨some 23, .load true 3 (.t 5), none, []⟩,
  ⟨some 24, .call true (.c (.fn 179 [])) [.t 21, .t 22, .t 23], none, [3, 4, 5, 6]⟩,
  ⟨none, .store false 3 (.t 6) (.t 18), none, [0, 1, 7]⟩,
  ⟨none, .store false 3 (.t 7) (.t 20), none, [0, 1, 2, 3, 8]⟩,
  ⟨some 8, .move (.t 24), none, [0, 1, 2, 3, 4, 5, 6, 7, 8, 9]⟩]
def v339 : VFn := ⟨3, [.cell 6 true 3, .cell 7 true 3, .tmp 8], (.seq (.region false 4 [0, 4, 5, 6, 7] r339_0) (.seq (.seq (.region false 0 [0, 4, 5, 6, 7, 12] r339_1) (.cond (.t 12) (.seq (.region true 0 [6, 7, 8] r339_2) .ret) .skip)) (.seq (.region true 0 [6, 7, 8] r339_3) .ret)))⟩
/-! loop.example/g00461/impl.Oriented -/
def r340_0 : List VOper := [
  ⟨some 4, .box 0 (.t 1), none, []⟩,
  ⟨some 5, .box 1 (.t 2), none, []⟩,
  ⟨some 6, .alloc 2 [.int .i64 0, .int .i64 0, .sl .nil []], none, []⟩,
  ⟨some 7, .alloc 3 [.int .i64 0, .int .i64 0, .sl .nil []], none, []⟩,
  ⟨some 8, .move (.c (.d (.bool false))), none, []⟩]
def r340_1 : List VOper := [
  ⟨some 11, .load true 3 (.t 4), none, []⟩,
  ⟨some 12, .call true (.c (.fn 150 [])) [.t 11], none, [0]⟩,
  ⟨some 13, .load true 3 (.t 5), none, []⟩,
  ⟨some 14, .call true (.c (.fn 150 [])) [.t 13], none, [1, 2]⟩,
  ⟨some 9, .alloc 0 [.int .i64 0, .int .i64 0, .sl .nil []], none, []⟩,
  ⟨some 10, .alloc 1 [.int .i64 0, .int .i64 0, .sl .nil []], none, []⟩,
  ⟨none, .store true 3 (.t 9) (.t 12), none, [0, 1, 3, 4, 5]⟩,
  ⟨none, .store true 3 (.t 10) (.t 14), none, [0, 1, 2, 3, 4, 5, 6]⟩]
def r340_2 : List VOper := [
  ⟨some 16, .move (.t 0), none, []⟩,
  ⟨some 17, .load true 3 (.t 4), none, []⟩,
  ⟨some 18, .load true 3 (.t 5), none, []⟩,
  ⟨some 19, .call true (.c (.fn 178 [])) [.t 16, .t 17, .t 18], none, []⟩,
  ⟨some 15, .move (.t 19), none, []⟩]
def r340_3 : List VOper := [
  ⟨some 20, .load true 3 (.t 9), none, []⟩,
  ⟨some 21, .load true 3 (.t 10), none, []⟩,
  ⟨none, .storeN 3 (.t 6) (.t 20) [10], none, [0]⟩,
  ⟨none, .store false 3 (.t 7) (.t 21), none, [0, 1, 2]⟩,
  ⟨some 8, .move (.c (.d (.bool true))), none, [0, 1, 2, 3]⟩]
def r340_4 : List VOper := [
  ⟨some 23, .move (.t 0), none, []⟩,
  ⟨some 24, .load true 3 (.t 5), none, []⟩,
  ⟨some 25, .load true 3 (.t 4), none, []⟩,
  ⟨some 26, .call true (.c (.fn 178 [])) [.t 23, .t 24, .t 25], none, []⟩,
  ⟨some 22, .move (.t 26), none, []⟩]
def r340_5 : List VOper := [
  ⟨some 27, .load true 3 (.t 10), none, []⟩,
  ⟨some 28, .load true 3 (.t 9), none, []⟩,
  ⟨none, .storeN 3 (.t 6) (.t 27) [9], none, [0]⟩,
  ⟨none, .store false 3 (.t 7) (.t 28), none, [0, 1, 2]⟩,
  ⟨some 8, .move (.c (.d (.bool true))), none, [0, 1, 2, 3]⟩]
def r340_6 : List VOper := [
  ⟨some 29, .load true 3 (.t 9), none, []⟩,
  ⟨some 30, .load true 3 (.t 10), none, []⟩,
  ⟨none, .storeN 3 (.t 6) (.t 29) [10], none, [0]⟩,
  ⟨none, .store false 3 (.t 7) (.t 30), none, [0, 1, 2]⟩,
  ⟨some 8, .move (.c (.d (.bool false))), none, [0, 1, 2, 3]⟩]
def v340 : VFn := ⟨3, [.cell 6 true 3, .cell 7 true 3, .tmp 8], (.seq (.region false 4 [0, 4, 5, 6, 7] r340_0) (.seq (.region true 2 [0, 4, 5, 6, 7, 9, 10] r340_1) (.seq (.block 0 (.seq (.region false 0 [0, 4, 5, 6, 7, 9, 10, 15] r340_2) (.cond (.t 15) (.seq (.region true 0 [6, 7, 8] r340_3) .ret) (.seq (.region false 0 [6, 7, 9, 10, 22] r340_4) (.cond (.t 22) (.seq (.region true 0 [6, 7, 8] r340_5) .ret) .skip))))) (.seq (.region true 0 [6, 7, 8] r340_6) .ret))))⟩
/-! loop.example/g00461/laws.heldTerm -/
def r341_0 : List VOper := [
  ⟨some 2, .box 0 (.t 0), none, []⟩,
  ⟨some 4, .move (.c (.d (.int .i64 0))), none, []⟩]
def r341_1 : List VOper := [
  ⟨some 5, .fieldAddr 2 (.t 2), none, []⟩,
  ⟨some 6, .load false 1 (.t 5), none, []⟩,
  ⟨some 7, .move (.t 1), none, []⟩,
  ⟨some 8, .call false (.c (.fn 292 [])) [.t 6, .t 7], none, []⟩,
  ⟨some 1, .move (.t 8), none, []⟩]
def r341_2 : List VOper := [
  ⟨some 9, .move (.t 1), none, []⟩,
  ⟨some 10, .bin .lss (.t 9) (.c (.d (.int .i64 0))), none, []⟩]
def r341_3 : List VOper := [
  ⟨some 4, .move (.c (.d (.int .i64 (-1)))), none, []⟩]
def r341_4 : List VOper := [
  ⟨some 11, .move (.t 1), none, []⟩,
  ⟨some 4, .move (.t 11), none, []⟩]
def v341 : VFn := ⟨2, [.tmp 4], (.seq (.region false 1 [1, 2] r341_0) (.seq (.region false 0 [1] r341_1) (.seq (.seq (.region false 0 [1, 10] r341_2) (.cond (.t 10) (.seq (.region false 0 [4] r341_3) .ret) .skip)) (.seq (.region false 0 [4] r341_4) .ret))))⟩
def look : List (Nat × VFn) → Nat → Option VFn
  | [], _ => none
  | (k, v) :: r, n => if n = k then some v else look r n
def codes : List (Nat × VFn) := [(1, v1), (2, v2), (3, v3), (5, v5), (6, v6), (7, v7), (8, v8), (9, v9), (11, v11), (12, v12), (13, v13), (14, v14), (15, v15), (16, v16), (17, v17), (18, v18), (19, v19), (20, v20), (22, v22), (23, v23), (24, v24), (25, v25), (29, v29), (30, v30), (31, v31), (33, v33), (34, v34), (47, v47), (53, v53), (54, v54), (55, v55), (56, v56), (59, v59), (60, v60), (61, v61), (62, v62), (70, v70), (73, v73), (74, v74), (75, v75), (77, v77), (78, v78), (79, v79), (80, v80), (81, v81), (82, v82), (83, v83), (84, v84), (85, v85), (102, v102), (103, v103), (104, v104), (105, v105), (106, v106), (107, v107), (108, v108), (110, v110), (111, v111), (112, v112), (117, v117), (118, v118), (146, v146), (150, v150), (151, v151), (178, v178), (179, v179), (243, v243), (244, v244), (292, v292), (294, v294), (308, v308), (338, v338), (339, v339), (340, v340), (341, v341)]
def specs : List (Nat × SFn) := []
def nats : List (Nat × (List DV → Option DV)) := [(106, numAddD)]
def E : Env := ⟨look codes, fun k => (lookN nats k).map natV, lookS specs⟩
theorem code_1 : E.code 1 = some v1 := by kernel_rfl
theorem code_2 : E.code 2 = some v2 := by kernel_rfl
theorem code_3 : E.code 3 = some v3 := by kernel_rfl
theorem code_5 : E.code 5 = some v5 := by kernel_rfl
theorem code_6 : E.code 6 = some v6 := by kernel_rfl
theorem code_7 : E.code 7 = some v7 := by kernel_rfl
theorem code_8 : E.code 8 = some v8 := by kernel_rfl
theorem code_9 : E.code 9 = some v9 := by kernel_rfl
theorem code_11 : E.code 11 = some v11 := by kernel_rfl
theorem code_12 : E.code 12 = some v12 := by kernel_rfl
theorem code_13 : E.code 13 = some v13 := by kernel_rfl
theorem code_14 : E.code 14 = some v14 := by kernel_rfl
theorem code_15 : E.code 15 = some v15 := by kernel_rfl
theorem code_16 : E.code 16 = some v16 := by kernel_rfl
theorem code_17 : E.code 17 = some v17 := by kernel_rfl
theorem code_18 : E.code 18 = some v18 := by kernel_rfl
theorem code_19 : E.code 19 = some v19 := by kernel_rfl
theorem code_20 : E.code 20 = some v20 := by kernel_rfl
theorem code_22 : E.code 22 = some v22 := by kernel_rfl
theorem code_23 : E.code 23 = some v23 := by kernel_rfl
theorem code_24 : E.code 24 = some v24 := by kernel_rfl
theorem code_25 : E.code 25 = some v25 := by kernel_rfl
theorem code_29 : E.code 29 = some v29 := by kernel_rfl
theorem code_30 : E.code 30 = some v30 := by kernel_rfl
theorem code_31 : E.code 31 = some v31 := by kernel_rfl
theorem code_33 : E.code 33 = some v33 := by kernel_rfl
theorem code_34 : E.code 34 = some v34 := by kernel_rfl
theorem code_47 : E.code 47 = some v47 := by kernel_rfl
theorem code_53 : E.code 53 = some v53 := by kernel_rfl
theorem code_54 : E.code 54 = some v54 := by kernel_rfl
theorem code_55 : E.code 55 = some v55 := by kernel_rfl
theorem code_56 : E.code 56 = some v56 := by kernel_rfl
theorem code_59 : E.code 59 = some v59 := by kernel_rfl
theorem code_60 : E.code 60 = some v60 := by kernel_rfl
theorem code_61 : E.code 61 = some v61 := by kernel_rfl
theorem code_62 : E.code 62 = some v62 := by kernel_rfl
theorem code_70 : E.code 70 = some v70 := by kernel_rfl
theorem code_73 : E.code 73 = some v73 := by kernel_rfl
theorem code_74 : E.code 74 = some v74 := by kernel_rfl
theorem code_75 : E.code 75 = some v75 := by kernel_rfl
theorem code_77 : E.code 77 = some v77 := by kernel_rfl
theorem code_78 : E.code 78 = some v78 := by kernel_rfl
theorem code_79 : E.code 79 = some v79 := by kernel_rfl
theorem code_80 : E.code 80 = some v80 := by kernel_rfl
theorem code_81 : E.code 81 = some v81 := by kernel_rfl
theorem code_82 : E.code 82 = some v82 := by kernel_rfl
theorem code_83 : E.code 83 = some v83 := by kernel_rfl
theorem code_84 : E.code 84 = some v84 := by kernel_rfl
theorem code_85 : E.code 85 = some v85 := by kernel_rfl
theorem code_102 : E.code 102 = some v102 := by kernel_rfl
theorem code_103 : E.code 103 = some v103 := by kernel_rfl
theorem code_104 : E.code 104 = some v104 := by kernel_rfl
theorem code_105 : E.code 105 = some v105 := by kernel_rfl
theorem code_106 : E.code 106 = some v106 := by kernel_rfl
theorem code_107 : E.code 107 = some v107 := by kernel_rfl
theorem code_108 : E.code 108 = some v108 := by kernel_rfl
theorem code_110 : E.code 110 = some v110 := by kernel_rfl
theorem code_111 : E.code 111 = some v111 := by kernel_rfl
theorem code_112 : E.code 112 = some v112 := by kernel_rfl
theorem code_117 : E.code 117 = some v117 := by kernel_rfl
theorem code_118 : E.code 118 = some v118 := by kernel_rfl
theorem code_146 : E.code 146 = some v146 := by kernel_rfl
theorem code_150 : E.code 150 = some v150 := by kernel_rfl
theorem code_151 : E.code 151 = some v151 := by kernel_rfl
theorem code_178 : E.code 178 = some v178 := by kernel_rfl
theorem code_179 : E.code 179 = some v179 := by kernel_rfl
theorem code_243 : E.code 243 = some v243 := by kernel_rfl
theorem code_244 : E.code 244 = some v244 := by kernel_rfl
theorem code_292 : E.code 292 = some v292 := by kernel_rfl
theorem code_294 : E.code 294 = some v294 := by kernel_rfl
theorem code_308 : E.code 308 = some v308 := by kernel_rfl
theorem code_338 : E.code 338 = some v338 := by kernel_rfl
theorem code_339 : E.code 339 = some v339 := by kernel_rfl
theorem code_340 : E.code 340 = some v340 := by kernel_rfl
theorem code_341 : E.code 341 = some v341 := by kernel_rfl
end Go.Proofs.Ytficfeekkljoeaa.VS
