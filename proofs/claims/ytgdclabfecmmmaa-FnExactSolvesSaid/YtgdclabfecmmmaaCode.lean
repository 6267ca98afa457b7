/- The code of the functions that the laws reach, for the evaluator. -/
import Derived.Test.YtgdclabfecmmmaaEngA
import Derived.KernelRfl
namespace Go.Proofs.Ytgdclabfecmmmaa.VS
set_option linter.unusedVariables false
/-! loop.example/g00461/laws.FnExactTermSame -/
def r0_0 : List VOper := [
  ⟨some 2, .box 0 (.t 0), none, []⟩,
  ⟨some 3, .box 1 (.t 1), none, []⟩,
  ⟨some 4, .move (.c (.d (.bool false))), none, []⟩]
def r0_1 : List VOper := [
  ⟨some 5, .move (.c (.d (.int .i64 1048576))), none, []⟩]
def r0_2 : List VOper := [
  ⟨some 10, .load true 3 (.t 2), none, []⟩,
  ⟨some 11, .move (.t 5), none, []⟩,
  ⟨some 12, .call true (.c (.fn 1 [])) [.t 10, .t 11], none, []⟩,
  ⟨some 5, .move (.t 12), none, []⟩]
def r0_3 : List VOper := [
  ⟨some 13, .move (.t 5), none, []⟩,
  ⟨some 14, .bin .lss (.t 13) (.c (.d (.int .i64 0))), none, []⟩]
def r0_4 : List VOper := [
  ⟨some 4, .move (.c (.d (.bool true))), none, []⟩]
def r0_5 : List VOper := [
  ⟨some 15, .load true 3 (.t 3), none, []⟩,
  ⟨some 16, .move (.t 5), none, []⟩,
  ⟨some 17, .call true (.c (.fn 1 [])) [.t 15, .t 16], none, []⟩,
  ⟨some 5, .move (.t 17), none, []⟩]
def r0_6 : List VOper := [
  ⟨some 18, .move (.t 5), none, []⟩,
  ⟨some 19, .bin .lss (.t 18) (.c (.d (.int .i64 0))), none, []⟩]
def r0_7 : List VOper := [
  ⟨some 4, .move (.c (.d (.bool true))), none, []⟩]
def r0_8 : List VOper := [
  ⟨some 20, .load true 3 (.t 2), none, []⟩,
  ⟨some 21, .call true (.c (.fn 2 [])) [.t 20], none, [0]⟩,
  ⟨some 22, .load true 3 (.t 3), none, []⟩,
  ⟨some 23, .call true (.c (.fn 2 [])) [.t 22], none, [1, 2]⟩,
  ⟨some 24, .call true (.c (.fn 3 [])) [.t 21, .t 23], none, [1, 3]⟩,
  ⟨some 6, .move (.t 24), none, [0, 1, 2, 3, 4]⟩]
def r0_9 : List VOper := [
  ⟨some 25, .load true 3 (.t 2), none, []⟩,
  ⟨some 26, .call true (.c (.fn 2 [])) [.t 25], none, []⟩,
  ⟨some 7, .alloc 0 [.int .i64 0, .int .i64 0, .sl .nil []], none, []⟩,
  ⟨none, .store false 3 (.t 7) (.t 26), none, []⟩]
def r0_10 : List VOper := [
  ⟨some 27, .load true 3 (.t 3), none, []⟩,
  ⟨some 28, .call true (.c (.fn 2 [])) [.t 27], none, []⟩,
  ⟨some 8, .alloc 0 [.int .i64 0, .int .i64 0, .sl .nil []], none, []⟩,
  ⟨none, .store false 3 (.t 8) (.t 28), none, []⟩]
def r0_11 : List VOper := [
  ⟨some 29, .load true 3 (.t 7), none, []⟩,
  ⟨some 30, .load true 3 (.t 8), none, []⟩,
  ⟨some 31, .call true (.c (.fn 4 [])) [.t 29, .t 30], none, []⟩,
  ⟨some 9, .move (.t 31), none, []⟩]
def r0_12 : List VOper := [
  ⟨some 32, .move (.t 9), none, []⟩,
  ⟨some 33, .move (.t 6), none, []⟩,
  ⟨some 34, .eqB true (.t 32) (.t 33), none, []⟩]
def r0_13 : List VOper := [
  ⟨some 4, .move (.c (.d (.bool false))), none, []⟩]
def r0_14 : List VOper := [
  ⟨some 35, .load true 3 (.t 7), none, []⟩,
  ⟨some 36, .load true 3 (.t 2), none, []⟩,
  ⟨some 37, .call true (.c (.fn 2 [])) [.t 36], none, [1]⟩,
  ⟨some 38, .call true (.c (.fn 5 [])) [.t 35, .t 37], none, [0, 2]⟩,
  ⟨some 39, .not (.t 38), none, [3]⟩]
def r0_15 : List VOper := [
  ⟨some 4, .move (.c (.d (.bool false))), none, []⟩]
def r0_16 : List VOper := [
  ⟨some 40, .load true 3 (.t 8), none, []⟩,
  ⟨some 41, .load true 3 (.t 3), none, []⟩,
  ⟨some 42, .call true (.c (.fn 2 [])) [.t 41], none, [1]⟩,
  ⟨some 43, .call true (.c (.fn 5 [])) [.t 40, .t 42], none, [0, 2]⟩,
  ⟨some 44, .not (.t 43), none, [3]⟩]
def r0_17 : List VOper := [
  ⟨some 4, .move (.c (.d (.bool false))), none, []⟩]
def r0_18 : List VOper := [
  ⟨some 4, .move (.c (.d (.bool true))), none, []⟩]
def v0 : VFn := ⟨2, [.tmp 4], (.seq (.region false 2 [2, 3] r0_0) (.seq (.region false 0 [2, 3, 5] r0_1) (.seq (.region false 0 [2, 3, 5] r0_2) (.seq (.seq (.region false 0 [2, 3, 5, 14] r0_3) (.cond (.t 14) (.seq (.region false 0 [4] r0_4) .ret) .skip)) (.seq (.region false 0 [2, 3, 5] r0_5) (.seq (.seq (.region false 0 [2, 3, 19] r0_6) (.cond (.t 19) (.seq (.region false 0 [4] r0_7) .ret) .skip)) (.seq (.region true 0 [2, 3, 6] r0_8) (.seq (.region false 1 [2, 3, 6, 7] r0_9) (.seq (.region false 1 [2, 3, 6, 7, 8] r0_10) (.seq (.region false 0 [2, 3, 6, 7, 8, 9] r0_11) (.seq (.seq (.region false 0 [2, 3, 7, 8, 34] r0_12) (.cond (.t 34) (.seq (.region false 0 [4] r0_13) .ret) .skip)) (.seq (.seq (.region true 0 [3, 8, 39] r0_14) (.cond (.t 39) (.seq (.region false 0 [4] r0_15) .ret) .skip)) (.seq (.seq (.region true 0 [44] r0_16) (.cond (.t 44) (.seq (.region false 0 [4] r0_17) .ret) .skip)) (.seq (.region false 0 [4] r0_18) .ret))))))))))))))⟩
/-! loop.example/g00461/laws.szTerm -/
def r1_0 : List VOper := [
  ⟨some 2, .box 0 (.t 0), none, []⟩,
  ⟨some 4, .move (.c (.d (.int .i64 0))), none, []⟩]
def r1_1 : List VOper := [
  ⟨some 5, .fieldAddr 2 (.t 2), none, []⟩,
  ⟨some 6, .load false 1 (.t 5), none, []⟩,
  ⟨some 7, .move (.t 1), none, []⟩,
  ⟨some 8, .call true (.c (.fn 9 [])) [.t 6, .t 7], none, []⟩,
  ⟨some 1, .move (.t 8), none, []⟩]
def r1_2 : List VOper := [
  ⟨some 9, .move (.t 1), none, []⟩,
  ⟨some 10, .bin .lss (.t 9) (.c (.d (.int .i64 0))), none, []⟩]
def r1_3 : List VOper := [
  ⟨some 4, .move (.c (.d (.int .i64 (-1)))), none, []⟩]
def r1_4 : List VOper := [
  ⟨some 11, .move (.t 1), none, []⟩,
  ⟨some 4, .move (.t 11), none, []⟩]
def v1 : VFn := ⟨2, [.tmp 4], (.seq (.region false 1 [1, 2] r1_0) (.seq (.region false 0 [1] r1_1) (.seq (.seq (.region false 0 [1, 10] r1_2) (.cond (.t 10) (.seq (.region false 0 [4] r1_3) .ret) .skip)) (.seq (.region false 0 [4] r1_4) .ret))))⟩
/-! loop.example/g00461/laws.toTerm -/
def r2_0 : List VOper := [
  ⟨some 1, .box 0 (.t 0), none, []⟩,
  ⟨some 2, .alloc 1 [.int .i64 0, .int .i64 0, .sl .nil []], none, []⟩]
def r2_1 : List VOper := [
  ⟨some 3, .alloc 0 [.int .i64 0, .int .i64 0, .sl .nil []], none, []⟩]
def r2_2 : List VOper := [
  ⟨some 4, .fieldAddr 0 (.t 1), none, []⟩,
  ⟨some 5, .load false 1 (.t 4), none, []⟩,
  ⟨some 6, .fieldAddr 0 (.t 3), none, []⟩,
  ⟨none, .store false 1 (.t 6) (.t 5), none, []⟩]
def r2_3 : List VOper := [
  ⟨some 7, .fieldAddr 1 (.t 1), none, []⟩,
  ⟨some 8, .load false 1 (.t 7), none, []⟩,
  ⟨some 9, .fieldAddr 1 (.t 3), none, []⟩,
  ⟨none, .store false 1 (.t 9) (.t 8), none, []⟩]
def r2_4 : List VOper := [
  ⟨some 10, .fieldAddr 2 (.t 1), none, []⟩,
  ⟨some 11, .load false 1 (.t 10), none, []⟩,
  ⟨some 12, .call true (.c (.fn 8 [])) [.t 11], none, []⟩,
  ⟨some 13, .fieldAddr 2 (.t 3), none, []⟩,
  ⟨none, .store false 1 (.t 13) (.t 12), none, []⟩]
def r2_5 : List VOper := [
  ⟨some 14, .load true 3 (.t 3), none, []⟩,
  ⟨none, .store false 3 (.t 2) (.t 14), none, []⟩]
def v2 : VFn := ⟨1, [.cell 2 true 3], (.seq (.region false 2 [1, 2] r2_0) (.seq (.region false 1 [1, 2, 3] r2_1) (.seq (.region false 0 [1, 2, 3] r2_2) (.seq (.region false 0 [1, 2, 3] r2_3) (.seq (.region false 0 [2, 3] r2_4) (.seq (.region false 0 [2] r2_5) .ret))))))⟩
/-! loop.example/g00461/spec.TermSame -/
def r3_0 : List VOper := [
  ⟨some 2, .box 0 (.t 0), none, []⟩,
  ⟨some 3, .box 1 (.t 1), none, []⟩,
  ⟨some 4, .move (.c (.d (.bool false))), none, []⟩]
def r3_1 : List VOper := [
  ⟨some 6, .fieldAddr 0 (.t 2), none, []⟩,
  ⟨some 7, .load false 1 (.t 6), none, []⟩,
  ⟨some 8, .fieldAddr 0 (.t 3), none, []⟩,
  ⟨some 9, .load false 1 (.t 8), none, []⟩,
  ⟨some 10, .bin .neq (.t 7) (.t 9), none, []⟩,
  ⟨some 11, .move (.t 10), none, []⟩,
  ⟨some 12, .fieldAddr 1 (.t 2), some (11, false), []⟩,
  ⟨some 13, .load false 1 (.t 12), some (11, false), []⟩,
  ⟨some 14, .fieldAddr 1 (.t 3), some (11, false), []⟩,
  ⟨some 15, .load false 1 (.t 14), some (11, false), []⟩,
  ⟨some 16, .bin .neq (.t 13) (.t 15), some (11, false), []⟩,
  ⟨some 17, .pick (.t 11) (.c (.d (.bool true))) (.t 16), none, []⟩,
  ⟨some 18, .move (.t 17), none, []⟩,
  ⟨some 19, .fieldAddr 2 (.t 2), some (18, false), []⟩,
  ⟨some 20, .load false 1 (.t 19), some (18, false), []⟩,
  ⟨some 21, .len false (.t 20), some (18, false), []⟩,
  ⟨some 22, .fieldAddr 2 (.t 3), some (18, false), []⟩,
  ⟨some 23, .load false 1 (.t 22), some (18, false), []⟩,
  ⟨some 24, .len false (.t 23), some (18, false), []⟩,
  ⟨some 25, .bin .neq (.t 21) (.t 24), some (18, false), []⟩,
  ⟨some 26, .pick (.t 18) (.c (.d (.bool true))) (.t 25), none, []⟩]
def r3_2 : List VOper := [
  ⟨some 4, .move (.c (.d (.bool false))), none, []⟩]
def r3_3 : List VOper := [
  ⟨some 5, .move (.c (.d (.int .i64 0))), none, []⟩]
def r3_4 : List VOper := [
  ⟨some 27, .move (.t 5), none, []⟩,
  ⟨some 28, .fieldAddr 2 (.t 2), none, []⟩,
  ⟨some 29, .load false 1 (.t 28), none, []⟩,
  ⟨some 30, .len false (.t 29), none, []⟩,
  ⟨some 31, .bin .lss (.t 27) (.t 30), none, []⟩]
def r3_6 : List VOper := [
  ⟨some 34, .fieldAddr 2 (.t 2), none, []⟩,
  ⟨some 35, .load false 1 (.t 34), none, [0]⟩,
  ⟨some 36, .move (.t 5), none, []⟩,
  ⟨some 37, .indexAddr 3 none (.t 35) (.t 36), none, [1, 2]⟩,
  ⟨some 38, .load true 3 (.t 37), none, [3]⟩,
  ⟨some 39, .fieldAddr 2 (.t 3), none, []⟩,
  ⟨some 40, .load false 1 (.t 39), none, [5]⟩,
  ⟨some 41, .move (.t 5), none, []⟩,
  ⟨some 42, .indexAddr 3 none (.t 40) (.t 41), none, [6, 7]⟩,
  ⟨some 43, .load true 3 (.t 42), none, [8]⟩,
  ⟨some 44, .call true (.c (.fn 3 [])) [.t 38, .t 43], none, [4, 9]⟩,
  ⟨some 45, .not (.t 44), none, [10]⟩]
def r3_7 : List VOper := [
  ⟨some 4, .move (.c (.d (.bool false))), none, []⟩]
def r3_5 : List VOper := [
  ⟨some 32, .move (.t 5), none, []⟩,
  ⟨some 33, .bin .add (.t 32) (.c (.d (.int .i64 1))), none, []⟩,
  ⟨some 5, .move (.t 33), none, []⟩]
def b3_0 : VCode := (.seq (.seq (.region false 0 [2, 3, 5, 31] r3_4) (.cond (.t 31) .skip (.exit 0))) (.seq (.block 1 (.seq (.region true 0 [2, 3, 5, 45] r3_6) (.cond (.t 45) (.seq (.region false 0 [4] r3_7) .ret) .skip))) (.region false 0 [2, 3, 5] r3_5)))
def r3_8 : List VOper := [
  ⟨some 4, .move (.c (.d (.bool true))), none, []⟩]
def v3 : VFn := ⟨2, [.tmp 4], (.seq (.region false 2 [2, 3] r3_0) (.seq (.seq (.region false 0 [2, 3, 26] r3_1) (.cond (.t 26) (.seq (.region false 0 [4] r3_2) .ret) .skip)) (.seq (.seq (.region false 0 [2, 3, 5] r3_3) (.block 0 (.loop [2, 3, 5] b3_0))) (.seq (.region false 0 [4] r3_8) .ret))))⟩
/-! loop.example/g00461/impl.TermSame -/
def r4_0 : List VOper := [
  ⟨some 2, .box 0 (.t 0), none, []⟩,
  ⟨some 3, .box 1 (.t 1), none, []⟩,
  ⟨some 4, .move (.c (.d (.bool false))), none, []⟩]
def r4_1 : List VOper := [
  ⟨some 5, .load true 3 (.t 2), none, []⟩,
  ⟨some 6, .load true 3 (.t 3), none, []⟩,
  ⟨some 7, .call true (.c (.fn 6 [])) [.t 5, .t 6], none, []⟩,
  ⟨some 8, .bin .eql (.t 7) (.c (.d (.int .i64 0))), none, []⟩,
  ⟨some 4, .move (.t 8), none, []⟩]
def v4 : VFn := ⟨2, [.tmp 4], (.seq (.region false 2 [2, 3] r4_0) (.seq (.region false 0 [4] r4_1) .ret))⟩
/-! loop.example/g00461/laws.eqTerm -/
def r5_0 : List VOper := [
  ⟨some 2, .box 0 (.t 0), none, []⟩,
  ⟨some 3, .box 1 (.t 1), none, []⟩,
  ⟨some 4, .move (.c (.d (.bool false))), none, []⟩]
def r5_1 : List VOper := [
  ⟨some 5, .fieldAddr 0 (.t 2), none, []⟩,
  ⟨some 6, .load false 1 (.t 5), none, []⟩,
  ⟨some 7, .fieldAddr 0 (.t 3), none, []⟩,
  ⟨some 8, .load false 1 (.t 7), none, []⟩,
  ⟨some 9, .bin .neq (.t 6) (.t 8), none, []⟩]
def r5_2 : List VOper := [
  ⟨some 4, .move (.c (.d (.bool false))), none, []⟩]
def r5_3 : List VOper := [
  ⟨some 10, .fieldAddr 1 (.t 2), none, []⟩,
  ⟨some 11, .load false 1 (.t 10), none, []⟩,
  ⟨some 12, .fieldAddr 1 (.t 3), none, []⟩,
  ⟨some 13, .load false 1 (.t 12), none, []⟩,
  ⟨some 14, .bin .neq (.t 11) (.t 13), none, []⟩]
def r5_4 : List VOper := [
  ⟨some 4, .move (.c (.d (.bool false))), none, []⟩]
def r5_5 : List VOper := [
  ⟨some 15, .fieldAddr 2 (.t 2), none, []⟩,
  ⟨some 16, .load false 1 (.t 15), none, []⟩,
  ⟨some 17, .fieldAddr 2 (.t 3), none, []⟩,
  ⟨some 18, .load false 1 (.t 17), none, []⟩,
  ⟨some 19, .call true (.c (.fn 7 [])) [.t 16, .t 18], none, []⟩,
  ⟨some 20, .not (.t 19), none, []⟩]
def r5_6 : List VOper := [
  ⟨some 4, .move (.c (.d (.bool false))), none, []⟩]
def r5_7 : List VOper := [
  ⟨some 4, .move (.c (.d (.bool true))), none, []⟩]
def v5 : VFn := ⟨2, [.tmp 4], (.seq (.region false 2 [2, 3] r5_0) (.seq (.seq (.region false 0 [2, 3, 9] r5_1) (.cond (.t 9) (.seq (.region false 0 [4] r5_2) .ret) .skip)) (.seq (.seq (.region false 0 [2, 3, 14] r5_3) (.cond (.t 14) (.seq (.region false 0 [4] r5_4) .ret) .skip)) (.seq (.seq (.region false 0 [20] r5_5) (.cond (.t 20) (.seq (.region false 0 [4] r5_6) .ret) .skip)) (.seq (.region false 0 [4] r5_7) .ret)))))⟩
/-! loop.example/g00461/impl.compare -/
def r6_0 : List VOper := [
  ⟨some 2, .box 0 (.t 0), none, []⟩,
  ⟨some 3, .box 1 (.t 1), none, []⟩,
  ⟨some 4, .move (.c (.d (.int .i64 0))), none, []⟩]
def r6_1 : List VOper := [
  ⟨some 9, .fieldAddr 0 (.t 2), none, []⟩,
  ⟨some 10, .load false 1 (.t 9), none, []⟩,
  ⟨some 11, .fieldAddr 0 (.t 3), none, []⟩,
  ⟨some 12, .load false 1 (.t 11), none, []⟩,
  ⟨some 13, .build [.int .i64 0, .int .i64 0] [(0, 1, .t 10), (1, 1, .t 12)], none, []⟩,
  ⟨some 14, .fieldAddr 1 (.t 2), none, []⟩,
  ⟨some 15, .load false 1 (.t 14), none, []⟩,
  ⟨some 16, .fieldAddr 1 (.t 3), none, []⟩,
  ⟨some 17, .load false 1 (.t 16), none, []⟩,
  ⟨some 18, .build [.int .i64 0, .int .i64 0] [(0, 1, .t 15), (1, 1, .t 17)], none, []⟩,
  ⟨some 19, .fieldAddr 2 (.t 2), none, []⟩,
  ⟨some 20, .load false 1 (.t 19), none, []⟩,
  ⟨some 21, .len false (.t 20), none, []⟩,
  ⟨some 22, .fieldAddr 2 (.t 3), none, []⟩,
  ⟨some 23, .load false 1 (.t 22), none, []⟩,
  ⟨some 24, .len false (.t 23), none, []⟩,
  ⟨some 25, .build [.int .i64 0, .int .i64 0] [(0, 1, .t 21), (1, 1, .t 24)], none, []⟩,
  ⟨some 26, .buildSlice 2 (.agg [.int .i64 0, .int .i64 0]) 3 [(0, .t 13), (1, .t 18), (2, .t 25)], none, []⟩,
  ⟨some 27, .len false (.t 26), none, []⟩,
  ⟨some 28, .move (.c (.d (.int .i64 0))), none, []⟩]
def r6_2 : List VOper := [
  ⟨some 29, .bin .lss (.t 28) (.t 27), none, []⟩]
def r6_3 : List VOper := [
  ⟨some 30, .indexAddr 2 none (.t 26) (.t 28), none, []⟩,
  ⟨some 31, .load true 2 (.t 30), none, []⟩,
  ⟨some 6, .alloc 0 [.int .i64 0, .int .i64 0], none, []⟩,
  ⟨none, .store false 2 (.t 6) (.t 31), none, []⟩]
def r6_4 : List VOper := [
  ⟨some 33, .indexAddr 1 (some 2) (.t 6) (.c (.d (.int .i64 0))), none, []⟩,
  ⟨some 34, .load false 1 (.t 33), none, []⟩,
  ⟨some 35, .indexAddr 1 (some 2) (.t 6) (.c (.d (.int .i64 1))), none, []⟩,
  ⟨some 36, .load false 1 (.t 35), none, []⟩,
  ⟨some 37, .bin .lss (.t 34) (.t 36), none, []⟩,
  ⟨some 32, .move (.t 37), none, []⟩]
def r6_5 : List VOper := [
  ⟨some 4, .move (.c (.d (.int .i64 (-1)))), none, []⟩]
def r6_6 : List VOper := [
  ⟨some 39, .indexAddr 1 (some 2) (.t 6) (.c (.d (.int .i64 0))), none, []⟩,
  ⟨some 40, .load false 1 (.t 39), none, []⟩,
  ⟨some 41, .indexAddr 1 (some 2) (.t 6) (.c (.d (.int .i64 1))), none, []⟩,
  ⟨some 42, .load false 1 (.t 41), none, []⟩,
  ⟨some 43, .bin .gtr (.t 40) (.t 42), none, []⟩,
  ⟨some 38, .move (.t 43), none, []⟩]
def r6_7 : List VOper := [
  ⟨some 4, .move (.c (.d (.int .i64 1))), none, []⟩]
def r6_8 : List VOper := [
  ⟨some 44, .bin .add (.t 28) (.c (.d (.int .i64 1))), none, []⟩,
  ⟨some 28, .move (.t 44), none, []⟩]
def b6_0 : VCode := (.seq (.region false 0 [2, 3, 26, 27, 28, 29] r6_2) (.seq (.cond (.t 29) .skip (.exit 0)) (.seq (.block 1 (.seq (.region false 1 [2, 3, 6, 26, 27, 28] r6_3) (.block 2 (.seq (.region false 0 [2, 3, 6, 26, 27, 28, 32] r6_4) (.cond (.t 32) (.seq (.region false 0 [4] r6_5) .ret) (.seq (.region false 0 [2, 3, 26, 27, 28, 38] r6_6) (.cond (.t 38) (.seq (.region false 0 [4] r6_7) .ret) .skip))))))) (.region false 0 [2, 3, 26, 27, 28] r6_8))))
def r6_9 : List VOper := [
  ⟨some 45, .fieldAddr 2 (.t 2), none, []⟩,
  ⟨some 46, .load false 1 (.t 45), none, []⟩,
  ⟨some 47, .len false (.t 46), none, []⟩,
  ⟨some 48, .move (.c (.d (.int .i64 0))), none, []⟩]
def r6_10 : List VOper := [
  ⟨some 49, .bin .lss (.t 48) (.t 47), none, []⟩]
def r6_11 : List VOper := [
  ⟨some 50, .move (.t 48), none, []⟩,
  ⟨some 7, .move (.t 50), none, []⟩]
def r6_12 : List VOper := [
  ⟨some 51, .fieldAddr 2 (.t 2), none, []⟩,
  ⟨some 52, .load false 1 (.t 51), none, [0]⟩,
  ⟨some 53, .move (.t 7), none, []⟩,
  ⟨some 54, .indexAddr 3 none (.t 52) (.t 53), none, [1, 2]⟩,
  ⟨some 55, .load true 3 (.t 54), none, [3]⟩,
  ⟨some 56, .fieldAddr 2 (.t 3), none, []⟩,
  ⟨some 57, .load false 1 (.t 56), none, [5]⟩,
  ⟨some 58, .move (.t 7), none, []⟩,
  ⟨some 59, .indexAddr 3 none (.t 57) (.t 58), none, [6, 7]⟩,
  ⟨some 60, .load true 3 (.t 59), none, [8]⟩,
  ⟨some 61, .call true (.c (.fn 6 [])) [.t 55, .t 60], none, [4, 9]⟩,
  ⟨some 8, .move (.t 61), none, [0, 1, 2, 3, 4, 5, 6, 7, 8, 9, 10]⟩]
def r6_13 : List VOper := [
  ⟨some 62, .move (.t 8), none, []⟩,
  ⟨some 63, .bin .neq (.t 62) (.c (.d (.int .i64 0))), none, []⟩]
def r6_14 : List VOper := [
  ⟨some 64, .move (.t 8), none, []⟩,
  ⟨some 4, .move (.t 64), none, []⟩]
def r6_15 : List VOper := [
  ⟨some 65, .bin .add (.t 48) (.c (.d (.int .i64 1))), none, []⟩,
  ⟨some 48, .move (.t 65), none, []⟩]
def b6_1 : VCode := (.seq (.region false 0 [2, 3, 47, 48, 49] r6_10) (.seq (.cond (.t 49) .skip (.exit 3)) (.seq (.block 4 (.seq (.region false 0 [2, 3, 7, 47, 48] r6_11) (.seq (.region true 0 [2, 3, 8, 47, 48] r6_12) (.seq (.region false 0 [2, 3, 8, 47, 48, 63] r6_13) (.cond (.t 63) (.seq (.region false 0 [4] r6_14) .ret) .skip))))) (.region false 0 [2, 3, 47, 48] r6_15))))
def r6_16 : List VOper := [
  ⟨some 4, .move (.c (.d (.int .i64 0))), none, []⟩]
def v6 : VFn := ⟨2, [.tmp 4], (.seq (.region false 2 [2, 3] r6_0) (.seq (.seq (.region false 0 [2, 3, 26, 27, 28] r6_1) (.block 0 (.loop [2, 3, 26, 27, 28] b6_0))) (.seq (.seq (.region false 0 [2, 3, 47, 48] r6_9) (.block 3 (.loop [2, 3, 47, 48] b6_1))) (.seq (.region false 0 [4] r6_16) .ret))))⟩
/-! loop.example/g00461/laws.eqTermS -/
def r7_0 : List VOper := [
  ⟨some 4, .move (.c (.d (.bool false))), none, []⟩]
def r7_1 : List VOper := [
  ⟨some 6, .move (.t 0), none, []⟩,
  ⟨some 7, .len false (.t 6), none, []⟩,
  ⟨some 8, .move (.t 1), none, []⟩,
  ⟨some 9, .len false (.t 8), none, []⟩,
  ⟨some 10, .bin .neq (.t 7) (.t 9), none, []⟩]
def r7_2 : List VOper := [
  ⟨some 4, .move (.c (.d (.bool false))), none, []⟩]
def r7_3 : List VOper := [
  ⟨some 5, .move (.c (.d (.int .i64 0))), none, []⟩]
def r7_4 : List VOper := [
  ⟨some 11, .move (.t 5), none, []⟩,
  ⟨some 12, .move (.t 0), none, []⟩,
  ⟨some 13, .len false (.t 12), none, []⟩,
  ⟨some 14, .bin .lss (.t 11) (.t 13), none, []⟩]
def r7_6 : List VOper := [
  ⟨some 17, .move (.t 0), none, []⟩,
  ⟨some 18, .move (.t 5), none, []⟩,
  ⟨some 19, .indexAddr 3 none (.t 17) (.t 18), none, [0, 1]⟩,
  ⟨some 20, .load true 3 (.t 19), none, [2]⟩,
  ⟨some 21, .move (.t 1), none, []⟩,
  ⟨some 22, .move (.t 5), none, []⟩,
  ⟨some 23, .indexAddr 3 none (.t 21) (.t 22), none, [4, 5]⟩,
  ⟨some 24, .load true 3 (.t 23), none, [6]⟩,
  ⟨some 25, .call true (.c (.fn 5 [])) [.t 20, .t 24], none, [3, 7]⟩,
  ⟨some 26, .not (.t 25), none, [8]⟩]
def r7_7 : List VOper := [
  ⟨some 4, .move (.c (.d (.bool false))), none, []⟩]
def r7_5 : List VOper := [
  ⟨some 15, .move (.t 5), none, []⟩,
  ⟨some 16, .bin .add (.t 15) (.c (.d (.int .i64 1))), none, []⟩,
  ⟨some 5, .move (.t 16), none, []⟩]
def b7_0 : VCode := (.seq (.seq (.region false 0 [0, 1, 5, 14] r7_4) (.cond (.t 14) .skip (.exit 0))) (.seq (.block 1 (.seq (.region true 0 [0, 1, 5, 26] r7_6) (.cond (.t 26) (.seq (.region false 0 [4] r7_7) .ret) .skip))) (.region false 0 [0, 1, 5] r7_5)))
def r7_8 : List VOper := [
  ⟨some 4, .move (.c (.d (.bool true))), none, []⟩]
def v7 : VFn := ⟨2, [.tmp 4], (.seq (.region false 0 [0, 1] r7_0) (.seq (.seq (.region false 0 [0, 1, 10] r7_1) (.cond (.t 10) (.seq (.region false 0 [4] r7_2) .ret) .skip)) (.seq (.seq (.region false 0 [0, 1, 5] r7_3) (.block 0 (.loop [0, 1, 5] b7_0))) (.seq (.region false 0 [4] r7_8) .ret))))⟩
/-! loop.example/g00461/laws.toTermS -/
def r8_0 : List VOper := [
  ⟨some 2, .move (.c (.d (.sl .nil []))), none, []⟩]
def r8_1 : List VOper := [
  ⟨some 5, .move (.t 0), none, []⟩,
  ⟨some 6, .len false (.t 5), none, []⟩,
  ⟨some 7, .makeSlice 0 3 40 (.agg [.int .i64 0, .int .i64 0, .sl .nil []]) (.t 6), none, []⟩,
  ⟨some 3, .move (.t 7), none, []⟩]
def r8_2 : List VOper := [
  ⟨some 4, .move (.c (.d (.int .i64 0))), none, []⟩]
def r8_3 : List VOper := [
  ⟨some 8, .move (.t 4), none, []⟩,
  ⟨some 9, .move (.t 0), none, []⟩,
  ⟨some 10, .len false (.t 9), none, []⟩,
  ⟨some 11, .bin .lss (.t 8) (.t 10), none, []⟩]
def r8_5 : List VOper := [
  ⟨some 14, .move (.t 3), none, []⟩,
  ⟨some 15, .move (.t 4), none, []⟩,
  ⟨some 16, .move (.t 0), none, []⟩,
  ⟨some 17, .move (.t 4), none, []⟩,
  ⟨some 18, .indexAddr 3 none (.t 16) (.t 17), none, []⟩,
  ⟨some 19, .load true 3 (.t 18), none, []⟩,
  ⟨some 20, .call true (.c (.fn 2 [])) [.t 19], none, []⟩,
  ⟨some 21, .indexAddr 3 none (.t 14) (.t 15), none, []⟩,
  ⟨none, .store false 3 (.t 21) (.t 20), none, []⟩]
def r8_4 : List VOper := [
  ⟨some 12, .move (.t 4), none, []⟩,
  ⟨some 13, .bin .add (.t 12) (.c (.d (.int .i64 1))), none, []⟩,
  ⟨some 4, .move (.t 13), none, []⟩]
def b8_0 : VCode := (.seq (.seq (.region false 0 [0, 3, 4, 11] r8_3) (.cond (.t 11) .skip (.exit 0))) (.seq (.block 1 (.region false 0 [0, 3, 4] r8_5)) (.region false 0 [0, 3, 4] r8_4)))
def r8_6 : List VOper := [
  ⟨some 22, .move (.t 3), none, []⟩,
  ⟨some 2, .move (.t 22), none, []⟩]
def v8 : VFn := ⟨1, [.tmp 2], (.seq (.region false 0 [0] r8_0) (.seq (.region false 1 [0, 3] r8_1) (.seq (.seq (.region false 0 [0, 3, 4] r8_2) (.block 0 (.loop [0, 3, 4] b8_0))) (.seq (.region false 0 [2] r8_6) .ret))))⟩
/-! loop.example/g00461/laws.szTermS -/
def r9_0 : List VOper := [
  ⟨some 4, .move (.c (.d (.int .i64 0))), none, []⟩]
def r9_1 : List VOper := [
  ⟨some 6, .move (.t 1), none, []⟩,
  ⟨some 7, .move (.t 0), none, []⟩,
  ⟨some 8, .len false (.t 7), none, []⟩,
  ⟨some 9, .bin .sub (.t 6) (.t 8), none, []⟩,
  ⟨some 1, .move (.t 9), none, []⟩]
def r9_2 : List VOper := [
  ⟨some 10, .move (.t 1), none, []⟩,
  ⟨some 11, .bin .lss (.t 10) (.c (.d (.int .i64 0))), none, []⟩]
def r9_3 : List VOper := [
  ⟨some 4, .move (.c (.d (.int .i64 (-1)))), none, []⟩]
def r9_4 : List VOper := [
  ⟨some 5, .move (.c (.d (.int .i64 0))), none, []⟩]
def r9_5 : List VOper := [
  ⟨some 12, .move (.t 5), none, []⟩,
  ⟨some 13, .move (.t 0), none, []⟩,
  ⟨some 14, .len false (.t 13), none, []⟩,
  ⟨some 15, .bin .lss (.t 12) (.t 14), none, []⟩]
def r9_7 : List VOper := [
  ⟨some 18, .move (.t 0), none, []⟩,
  ⟨some 19, .move (.t 5), none, []⟩,
  ⟨some 20, .indexAddr 3 none (.t 18) (.t 19), none, []⟩,
  ⟨some 21, .load true 3 (.t 20), none, []⟩,
  ⟨some 22, .move (.t 1), none, []⟩,
  ⟨some 23, .call true (.c (.fn 1 [])) [.t 21, .t 22], none, []⟩,
  ⟨some 1, .move (.t 23), none, []⟩]
def r9_8 : List VOper := [
  ⟨some 24, .move (.t 1), none, []⟩,
  ⟨some 25, .bin .lss (.t 24) (.c (.d (.int .i64 0))), none, []⟩]
def r9_9 : List VOper := [
  ⟨some 4, .move (.c (.d (.int .i64 (-1)))), none, []⟩]
def r9_6 : List VOper := [
  ⟨some 16, .move (.t 5), none, []⟩,
  ⟨some 17, .bin .add (.t 16) (.c (.d (.int .i64 1))), none, []⟩,
  ⟨some 5, .move (.t 17), none, []⟩]
def b9_0 : VCode := (.seq (.seq (.region false 0 [0, 1, 5, 15] r9_5) (.cond (.t 15) .skip (.exit 0))) (.seq (.block 1 (.seq (.region false 0 [0, 1, 5] r9_7) (.seq (.region false 0 [0, 1, 5, 25] r9_8) (.cond (.t 25) (.seq (.region false 0 [4] r9_9) .ret) .skip)))) (.region false 0 [0, 1, 5] r9_6)))
def r9_10 : List VOper := [
  ⟨some 26, .move (.t 1), none, []⟩,
  ⟨some 4, .move (.t 26), none, []⟩]
def v9 : VFn := ⟨2, [.tmp 4], (.seq (.region false 0 [0, 1] r9_0) (.seq (.region false 0 [0, 1] r9_1) (.seq (.seq (.region false 0 [0, 1, 11] r9_2) (.cond (.t 11) (.seq (.region false 0 [4] r9_3) .ret) .skip)) (.seq (.seq (.region false 0 [0, 1, 5] r9_4) (.block 0 (.loop [0, 1, 5] b9_0))) (.seq (.region false 0 [4] r9_10) .ret)))))⟩
/-! loop.example/g00461/laws.FnExactSymOf -/
def r10_0 : List VOper := [
  ⟨some 4, .move (.c (.d (.bool false))), none, []⟩]
def r10_1 : List VOper := [
  ⟨some 9, .move (.t 1), none, []⟩,
  ⟨some 10, .len true (.t 9), none, []⟩,
  ⟨some 11, .bin .gtr (.t 10) (.c (.d (.int .i64 1048576))), none, []⟩]
def r10_2 : List VOper := [
  ⟨some 4, .move (.c (.d (.bool true))), none, []⟩]
def r10_3 : List VOper := [
  ⟨some 5, .move (.c (.d (.int .i64 1048576))), none, []⟩]
def r10_4 : List VOper := [
  ⟨some 12, .move (.t 0), none, []⟩,
  ⟨some 13, .move (.t 5), none, []⟩,
  ⟨some 14, .call true (.c (.fn 11 [])) [.t 12, .t 13], none, []⟩,
  ⟨some 5, .move (.t 14), none, []⟩]
def r10_5 : List VOper := [
  ⟨some 15, .move (.t 5), none, []⟩,
  ⟨some 16, .bin .lss (.t 15) (.c (.d (.int .i64 0))), none, []⟩]
def r10_6 : List VOper := [
  ⟨some 4, .move (.c (.d (.bool true))), none, []⟩]
def r10_7 : List VOper := [
  ⟨some 17, .move (.t 0), none, []⟩,
  ⟨some 18, .call true (.c (.fn 12 [])) [.t 17], none, []⟩,
  ⟨some 19, .move (.t 1), none, []⟩,
  ⟨some 20, .call true (.c (.fn 13 [])) [.t 18, .t 19], none, []⟩,
  ⟨some 6, .move (.t 20), none, []⟩]
def r10_8 : List VOper := [
  ⟨some 21, .move (.t 0), none, []⟩,
  ⟨some 22, .call true (.c (.fn 12 [])) [.t 21], none, []⟩,
  ⟨some 7, .move (.t 22), none, []⟩]
def r10_9 : List VOper := [
  ⟨some 23, .move (.t 7), none, []⟩,
  ⟨some 24, .move (.t 1), none, []⟩,
  ⟨some 25, .call true (.c (.fn 14 [])) [.t 23, .t 24], none, []⟩,
  ⟨some 8, .move (.t 25), none, []⟩]
def r10_10 : List VOper := [
  ⟨some 26, .move (.t 8), none, []⟩,
  ⟨some 27, .move (.t 6), none, []⟩,
  ⟨some 28, .bin .neq (.t 26) (.t 27), none, []⟩]
def r10_11 : List VOper := [
  ⟨some 4, .move (.c (.d (.bool false))), none, []⟩]
def r10_12 : List VOper := [
  ⟨some 29, .move (.t 7), none, []⟩,
  ⟨some 30, .move (.t 0), none, []⟩,
  ⟨some 31, .call true (.c (.fn 12 [])) [.t 30], none, []⟩,
  ⟨some 32, .call true (.c (.fn 15 [])) [.t 29, .t 31], none, []⟩,
  ⟨some 33, .not (.t 32), none, []⟩]
def r10_13 : List VOper := [
  ⟨some 4, .move (.c (.d (.bool false))), none, []⟩]
def r10_14 : List VOper := [
  ⟨some 4, .move (.c (.d (.bool true))), none, []⟩]
def v10 : VFn := ⟨2, [.tmp 4], (.seq (.region false 0 [0, 1] r10_0) (.seq (.seq (.region false 0 [0, 1, 11] r10_1) (.cond (.t 11) (.seq (.region false 0 [4] r10_2) .ret) .skip)) (.seq (.region false 0 [0, 1, 5] r10_3) (.seq (.region false 0 [0, 1, 5] r10_4) (.seq (.seq (.region false 0 [0, 1, 16] r10_5) (.cond (.t 16) (.seq (.region false 0 [4] r10_6) .ret) .skip)) (.seq (.region false 0 [0, 1, 6] r10_7) (.seq (.region false 0 [0, 1, 6, 7] r10_8) (.seq (.region false 0 [0, 6, 7, 8] r10_9) (.seq (.seq (.region false 0 [0, 7, 28] r10_10) (.cond (.t 28) (.seq (.region false 0 [4] r10_11) .ret) .skip)) (.seq (.seq (.region false 0 [33] r10_12) (.cond (.t 33) (.seq (.region false 0 [4] r10_13) .ret) .skip)) (.seq (.region false 0 [4] r10_14) .ret)))))))))))⟩
/-! loop.example/g00461/laws.szSymS -/
def r11_0 : List VOper := [
  ⟨some 4, .move (.c (.d (.int .i64 0))), none, []⟩]
def r11_1 : List VOper := [
  ⟨some 6, .move (.t 1), none, []⟩,
  ⟨some 7, .move (.t 0), none, []⟩,
  ⟨some 8, .len false (.t 7), none, []⟩,
  ⟨some 9, .bin .sub (.t 6) (.t 8), none, []⟩,
  ⟨some 1, .move (.t 9), none, []⟩]
def r11_2 : List VOper := [
  ⟨some 10, .move (.t 1), none, []⟩,
  ⟨some 11, .bin .lss (.t 10) (.c (.d (.int .i64 0))), none, []⟩]
def r11_3 : List VOper := [
  ⟨some 4, .move (.c (.d (.int .i64 (-1)))), none, []⟩]
def r11_4 : List VOper := [
  ⟨some 5, .move (.c (.d (.int .i64 0))), none, []⟩]
def r11_5 : List VOper := [
  ⟨some 12, .move (.t 5), none, []⟩,
  ⟨some 13, .move (.t 0), none, []⟩,
  ⟨some 14, .len false (.t 13), none, []⟩,
  ⟨some 15, .bin .lss (.t 12) (.t 14), none, []⟩]
def r11_7 : List VOper := [
  ⟨some 18, .move (.t 0), none, []⟩,
  ⟨some 19, .move (.t 5), none, []⟩,
  ⟨some 20, .indexAddr 3 none (.t 18) (.t 19), none, []⟩,
  ⟨some 21, .load true 3 (.t 20), none, []⟩,
  ⟨some 22, .move (.t 1), none, []⟩,
  ⟨some 23, .call true (.c (.fn 17 [])) [.t 21, .t 22], none, []⟩,
  ⟨some 1, .move (.t 23), none, []⟩]
def r11_8 : List VOper := [
  ⟨some 24, .move (.t 1), none, []⟩,
  ⟨some 25, .bin .lss (.t 24) (.c (.d (.int .i64 0))), none, []⟩]
def r11_9 : List VOper := [
  ⟨some 4, .move (.c (.d (.int .i64 (-1)))), none, []⟩]
def r11_6 : List VOper := [
  ⟨some 16, .move (.t 5), none, []⟩,
  ⟨some 17, .bin .add (.t 16) (.c (.d (.int .i64 1))), none, []⟩,
  ⟨some 5, .move (.t 17), none, []⟩]
def b11_0 : VCode := (.seq (.seq (.region false 0 [0, 1, 5, 15] r11_5) (.cond (.t 15) .skip (.exit 0))) (.seq (.block 1 (.seq (.region false 0 [0, 1, 5] r11_7) (.seq (.region false 0 [0, 1, 5, 25] r11_8) (.cond (.t 25) (.seq (.region false 0 [4] r11_9) .ret) .skip)))) (.region false 0 [0, 1, 5] r11_6)))
def r11_10 : List VOper := [
  ⟨some 26, .move (.t 1), none, []⟩,
  ⟨some 4, .move (.t 26), none, []⟩]
def v11 : VFn := ⟨2, [.tmp 4], (.seq (.region false 0 [0, 1] r11_0) (.seq (.region false 0 [0, 1] r11_1) (.seq (.seq (.region false 0 [0, 1, 11] r11_2) (.cond (.t 11) (.seq (.region false 0 [4] r11_3) .ret) .skip)) (.seq (.seq (.region false 0 [0, 1, 5] r11_4) (.block 0 (.loop [0, 1, 5] b11_0))) (.seq (.region false 0 [4] r11_10) .ret)))))⟩
/-! loop.example/g00461/laws.toSymS -/
def r12_0 : List VOper := [
  ⟨some 2, .move (.c (.d (.sl .nil []))), none, []⟩]
def r12_1 : List VOper := [
  ⟨some 5, .move (.t 0), none, []⟩,
  ⟨some 6, .len false (.t 5), none, []⟩,
  ⟨some 7, .makeSlice 0 3 32 (.agg [.str ⟨#[]⟩, .int .i64 0, .bool false]) (.t 6), none, []⟩,
  ⟨some 3, .move (.t 7), none, []⟩]
def r12_2 : List VOper := [
  ⟨some 4, .move (.c (.d (.int .i64 0))), none, []⟩]
def r12_3 : List VOper := [
  ⟨some 8, .move (.t 4), none, []⟩,
  ⟨some 9, .move (.t 0), none, []⟩,
  ⟨some 10, .len false (.t 9), none, []⟩,
  ⟨some 11, .bin .lss (.t 8) (.t 10), none, []⟩]
def r12_5 : List VOper := [
  ⟨some 14, .move (.t 3), none, []⟩,
  ⟨some 15, .move (.t 4), none, []⟩,
  ⟨some 16, .move (.t 0), none, []⟩,
  ⟨some 17, .move (.t 4), none, []⟩,
  ⟨some 18, .indexAddr 3 none (.t 16) (.t 17), none, []⟩,
  ⟨some 19, .load true 3 (.t 18), none, []⟩,
  ⟨some 20, .call true (.c (.fn 16 [])) [.t 19], none, []⟩,
  ⟨some 21, .indexAddr 3 none (.t 14) (.t 15), none, []⟩,
  ⟨none, .store false 3 (.t 21) (.t 20), none, []⟩]
def r12_4 : List VOper := [
  ⟨some 12, .move (.t 4), none, []⟩,
  ⟨some 13, .bin .add (.t 12) (.c (.d (.int .i64 1))), none, []⟩,
  ⟨some 4, .move (.t 13), none, []⟩]
def b12_0 : VCode := (.seq (.seq (.region false 0 [0, 3, 4, 11] r12_3) (.cond (.t 11) .skip (.exit 0))) (.seq (.block 1 (.region false 0 [0, 3, 4] r12_5)) (.region false 0 [0, 3, 4] r12_4)))
def r12_6 : List VOper := [
  ⟨some 22, .move (.t 3), none, []⟩,
  ⟨some 2, .move (.t 22), none, []⟩]
def v12 : VFn := ⟨1, [.tmp 2], (.seq (.region false 0 [0] r12_0) (.seq (.region false 1 [0, 3] r12_1) (.seq (.seq (.region false 0 [0, 3, 4] r12_2) (.block 0 (.loop [0, 3, 4] b12_0))) (.seq (.region false 0 [2] r12_6) .ret))))⟩
/-! loop.example/g00461/spec.SymOf -/
def r13_0 : List VOper := [
  ⟨some 4, .move (.c (.d (.int .i64 0))), none, []⟩]
def r13_1 : List VOper := [
  ⟨some 5, .move (.c (.d (.int .i64 0))), none, []⟩]
def r13_2 : List VOper := [
  ⟨some 6, .move (.t 5), none, []⟩,
  ⟨some 7, .move (.t 0), none, []⟩,
  ⟨some 8, .len false (.t 7), none, []⟩,
  ⟨some 9, .bin .lss (.t 6) (.t 8), none, []⟩]
def r13_4 : List VOper := [
  ⟨some 12, .move (.t 0), none, []⟩,
  ⟨some 13, .move (.t 5), none, []⟩,
  ⟨some 14, .indexAddr 3 none (.t 12) (.t 13), none, []⟩,
  ⟨some 15, .fieldAddr 0 (.t 14), none, []⟩,
  ⟨some 16, .load false 1 (.t 15), none, []⟩,
  ⟨some 17, .move (.t 1), none, []⟩,
  ⟨some 18, .bin .eql (.t 16) (.t 17), none, []⟩]
def r13_5 : List VOper := [
  ⟨some 19, .move (.t 5), none, []⟩,
  ⟨some 4, .move (.t 19), none, []⟩]
def r13_3 : List VOper := [
  ⟨some 10, .move (.t 5), none, []⟩,
  ⟨some 11, .bin .add (.t 10) (.c (.d (.int .i64 1))), none, []⟩,
  ⟨some 5, .move (.t 11), none, []⟩]
def b13_0 : VCode := (.seq (.seq (.region false 0 [0, 1, 5, 9] r13_2) (.cond (.t 9) .skip (.exit 0))) (.seq (.block 1 (.seq (.region false 0 [0, 1, 5, 18] r13_4) (.cond (.t 18) (.seq (.region false 0 [4] r13_5) .ret) .skip))) (.region false 0 [0, 1, 5] r13_3)))
def r13_6 : List VOper := [
  ⟨some 4, .move (.c (.d (.int .i64 (-1)))), none, []⟩]
def v13 : VFn := ⟨2, [.tmp 4], (.seq (.region false 0 [0, 1] r13_0) (.seq (.seq (.region false 0 [0, 1, 5] r13_1) (.block 0 (.loop [0, 1, 5] b13_0))) (.seq (.region false 0 [4] r13_6) .ret)))⟩
/-! loop.example/g00461/impl.SymOf -/
def r14_0 : List VOper := [
  ⟨some 3, .box 0 (.t 1), none, []⟩,
  ⟨some 4, .move (.c (.d (.int .i64 0))), none, []⟩]
def r14_1 : List VOper := [
  ⟨some 5, .move (.t 0), none, []⟩,
  ⟨some 6, .makeFunc 18 [.t 3], none, []⟩,
  ⟨some 7, .call false (.c (.fn 19 [])) [.t 5, .t 6], none, []⟩,
  ⟨some 4, .move (.t 7), none, []⟩]
def v14 : VFn := ⟨2, [.tmp 4], (.seq (.region false 1 [0, 3] r14_0) (.seq (.region false 0 [4] r14_1) .ret))⟩
/-! loop.example/g00461/laws.eqSymS -/
def r15_0 : List VOper := [
  ⟨some 4, .move (.c (.d (.bool false))), none, []⟩]
def r15_1 : List VOper := [
  ⟨some 6, .move (.t 0), none, []⟩,
  ⟨some 7, .len false (.t 6), none, []⟩,
  ⟨some 8, .move (.t 1), none, []⟩,
  ⟨some 9, .len false (.t 8), none, []⟩,
  ⟨some 10, .bin .neq (.t 7) (.t 9), none, []⟩]
def r15_2 : List VOper := [
  ⟨some 4, .move (.c (.d (.bool false))), none, []⟩]
def r15_3 : List VOper := [
  ⟨some 5, .move (.c (.d (.int .i64 0))), none, []⟩]
def r15_4 : List VOper := [
  ⟨some 11, .move (.t 5), none, []⟩,
  ⟨some 12, .move (.t 0), none, []⟩,
  ⟨some 13, .len false (.t 12), none, []⟩,
  ⟨some 14, .bin .lss (.t 11) (.t 13), none, []⟩]
def r15_6 : List VOper := [
  ⟨some 17, .move (.t 0), none, []⟩,
  ⟨some 18, .move (.t 5), none, []⟩,
  ⟨some 19, .indexAddr 3 none (.t 17) (.t 18), none, [0, 1]⟩,
  ⟨some 20, .load true 3 (.t 19), none, [2]⟩,
  ⟨some 21, .move (.t 1), none, []⟩,
  ⟨some 22, .move (.t 5), none, []⟩,
  ⟨some 23, .indexAddr 3 none (.t 21) (.t 22), none, [4, 5]⟩,
  ⟨some 24, .load true 3 (.t 23), none, [6]⟩,
  ⟨some 25, .call true (.c (.fn 20 [])) [.t 20, .t 24], none, [3, 7]⟩,
  ⟨some 26, .not (.t 25), none, [8]⟩]
def r15_7 : List VOper := [
  ⟨some 4, .move (.c (.d (.bool false))), none, []⟩]
def r15_5 : List VOper := [
  ⟨some 15, .move (.t 5), none, []⟩,
  ⟨some 16, .bin .add (.t 15) (.c (.d (.int .i64 1))), none, []⟩,
  ⟨some 5, .move (.t 16), none, []⟩]
def b15_0 : VCode := (.seq (.seq (.region false 0 [0, 1, 5, 14] r15_4) (.cond (.t 14) .skip (.exit 0))) (.seq (.block 1 (.seq (.region true 0 [0, 1, 5, 26] r15_6) (.cond (.t 26) (.seq (.region false 0 [4] r15_7) .ret) .skip))) (.region false 0 [0, 1, 5] r15_5)))
def r15_8 : List VOper := [
  ⟨some 4, .move (.c (.d (.bool true))), none, []⟩]
def v15 : VFn := ⟨2, [.tmp 4], (.seq (.region false 0 [0, 1] r15_0) (.seq (.seq (.region false 0 [0, 1, 10] r15_1) (.cond (.t 10) (.seq (.region false 0 [4] r15_2) .ret) .skip)) (.seq (.seq (.region false 0 [0, 1, 5] r15_3) (.block 0 (.loop [0, 1, 5] b15_0))) (.seq (.region false 0 [4] r15_8) .ret))))⟩
/-! loop.example/g00461/laws.toSym -/
def r16_0 : List VOper := [
  ⟨some 1, .box 0 (.t 0), none, []⟩,
  ⟨some 2, .alloc 1 [.str ⟨#[]⟩, .int .i64 0, .bool false], none, []⟩]
def r16_1 : List VOper := [
  ⟨some 3, .alloc 0 [.str ⟨#[]⟩, .int .i64 0, .bool false], none, []⟩]
def r16_2 : List VOper := [
  ⟨some 4, .fieldAddr 0 (.t 1), none, []⟩,
  ⟨some 5, .load false 1 (.t 4), none, []⟩,
  ⟨some 6, .fieldAddr 0 (.t 3), none, []⟩,
  ⟨none, .store false 1 (.t 6) (.t 5), none, []⟩]
def r16_3 : List VOper := [
  ⟨some 7, .fieldAddr 1 (.t 1), none, []⟩,
  ⟨some 8, .load false 1 (.t 7), none, []⟩,
  ⟨some 9, .fieldAddr 1 (.t 3), none, []⟩,
  ⟨none, .store false 1 (.t 9) (.t 8), none, []⟩]
def r16_4 : List VOper := [
  ⟨some 10, .fieldAddr 2 (.t 1), none, []⟩,
  ⟨some 11, .load false 1 (.t 10), none, []⟩,
  ⟨some 12, .fieldAddr 2 (.t 3), none, []⟩,
  ⟨none, .store false 1 (.t 12) (.t 11), none, []⟩]
def r16_5 : List VOper := [
  ⟨some 13, .load true 3 (.t 3), none, []⟩,
  ⟨none, .store false 3 (.t 2) (.t 13), none, []⟩]
def v16 : VFn := ⟨1, [.cell 2 true 3], (.seq (.region false 2 [1, 2] r16_0) (.seq (.region false 1 [1, 2, 3] r16_1) (.seq (.region false 0 [1, 2, 3] r16_2) (.seq (.region false 0 [1, 2, 3] r16_3) (.seq (.region false 0 [2, 3] r16_4) (.seq (.region false 0 [2] r16_5) .ret))))))⟩
/-! loop.example/g00461/laws.szSym -/
def r17_0 : List VOper := [
  ⟨some 2, .box 0 (.t 0), none, []⟩,
  ⟨some 4, .move (.c (.d (.int .i64 0))), none, []⟩]
def r17_1 : List VOper := [
  ⟨some 5, .move (.t 1), none, []⟩,
  ⟨some 6, .fieldAddr 0 (.t 2), none, []⟩,
  ⟨some 7, .load false 1 (.t 6), none, []⟩,
  ⟨some 8, .len true (.t 7), none, []⟩,
  ⟨some 9, .bin .sub (.t 5) (.t 8), none, []⟩,
  ⟨some 1, .move (.t 9), none, []⟩]
def r17_2 : List VOper := [
  ⟨some 10, .move (.t 1), none, []⟩,
  ⟨some 11, .bin .lss (.t 10) (.c (.d (.int .i64 0))), none, []⟩]
def r17_3 : List VOper := [
  ⟨some 4, .move (.c (.d (.int .i64 (-1)))), none, []⟩]
def r17_4 : List VOper := [
  ⟨some 12, .move (.t 1), none, []⟩,
  ⟨some 4, .move (.t 12), none, []⟩]
def v17 : VFn := ⟨2, [.tmp 4], (.seq (.region false 1 [1, 2] r17_0) (.seq (.region false 0 [1] r17_1) (.seq (.seq (.region false 0 [1, 11] r17_2) (.cond (.t 11) (.seq (.region false 0 [4] r17_3) .ret) .skip)) (.seq (.region false 0 [4] r17_4) .ret))))⟩
/-! loop.example/g00461/impl.SymOf$1 -/
def r18_0 : List VOper := [
  ⟨some 2, .box 0 (.t 0), none, []⟩,
  ⟨some 3, .move (.c (.d (.bool false))), none, []⟩]
def r18_1 : List VOper := [
  ⟨some 4, .fieldAddr 0 (.t 2), none, []⟩,
  ⟨some 5, .load false 1 (.t 4), none, []⟩,
  ⟨some 6, .load false 1 (.t 1), none, []⟩,
  ⟨some 7, .bin .eql (.t 5) (.t 6), none, []⟩,
  ⟨some 3, .move (.t 7), none, []⟩]
def v18 : VFn := ⟨2, [.tmp 3], (.seq (.region false 1 [1, 2] r18_0) (.seq (.region false 0 [3] r18_1) .ret))⟩
/-! slices.IndexFunc[[]loop.example/g00461/impl.Sym,loop.example/g00461/impl.Sym] -/
def r19_0 : List VOper := [
  ⟨some 4, .move (.c (.d (.int .i64 0))), none, []⟩]
def r19_1 : List VOper := [
  ⟨some 6, .move (.t 0), none, []⟩,
  ⟨some 7, .len false (.t 6), none, []⟩,
  ⟨some 8, .move (.c (.d (.int .i64 0))), none, []⟩]
def r19_2 : List VOper := [
  ⟨some 9, .bin .lss (.t 8) (.t 7), none, []⟩]
def r19_3 : List VOper := [
  ⟨some 10, .move (.t 8), none, []⟩,
  ⟨some 5, .move (.t 10), none, []⟩]
def r19_4 : List VOper := [
  ⟨some 11, .move (.t 1), none, []⟩,
  ⟨some 12, .move (.t 0), none, []⟩,
  ⟨some 13, .move (.t 5), none, []⟩,
  ⟨some 14, .indexAddr 3 none (.t 12) (.t 13), none, []⟩,
  ⟨some 15, .load true 3 (.t 14), none, []⟩,
  ⟨some 16, .call false (.t 11) [.t 15], none, []⟩]
def r19_5 : List VOper := [
  ⟨some 17, .move (.t 5), none, []⟩,
  ⟨some 4, .move (.t 17), none, []⟩]
def r19_6 : List VOper := [
  ⟨some 18, .bin .add (.t 8) (.c (.d (.int .i64 1))), none, []⟩,
  ⟨some 8, .move (.t 18), none, []⟩]
def b19_0 : VCode := (.seq (.region false 0 [0, 1, 7, 8, 9] r19_2) (.seq (.cond (.t 9) .skip (.exit 0)) (.seq (.block 1 (.seq (.region false 0 [0, 1, 5, 7, 8] r19_3) (.seq (.region false 0 [0, 1, 5, 7, 8, 16] r19_4) (.cond (.t 16) (.seq (.region false 0 [4] r19_5) .ret) .skip)))) (.region false 0 [0, 1, 7, 8] r19_6))))
def r19_7 : List VOper := [
  ⟨some 4, .move (.c (.d (.int .i64 (-1)))), none, []⟩]
def v19 : VFn := ⟨2, [.tmp 4], (.seq (.region false 0 [0, 1] r19_0) (.seq (.seq (.region false 0 [0, 1, 7, 8] r19_1) (.block 0 (.loop [0, 1, 7, 8] b19_0))) (.seq (.region false 0 [4] r19_7) .ret)))⟩
/-! loop.example/g00461/laws.eqSym -/
def r20_0 : List VOper := [
  ⟨some 2, .box 0 (.t 0), none, []⟩,
  ⟨some 3, .box 1 (.t 1), none, []⟩,
  ⟨some 4, .move (.c (.d (.bool false))), none, []⟩]
def r20_1 : List VOper := [
  ⟨some 5, .fieldAddr 0 (.t 2), none, []⟩,
  ⟨some 6, .load false 1 (.t 5), none, []⟩,
  ⟨some 7, .fieldAddr 0 (.t 3), none, []⟩,
  ⟨some 8, .load false 1 (.t 7), none, []⟩,
  ⟨some 9, .bin .neq (.t 6) (.t 8), none, []⟩]
def r20_2 : List VOper := [
  ⟨some 4, .move (.c (.d (.bool false))), none, []⟩]
def r20_3 : List VOper := [
  ⟨some 10, .fieldAddr 1 (.t 2), none, []⟩,
  ⟨some 11, .load false 1 (.t 10), none, []⟩,
  ⟨some 12, .fieldAddr 1 (.t 3), none, []⟩,
  ⟨some 13, .load false 1 (.t 12), none, []⟩,
  ⟨some 14, .bin .neq (.t 11) (.t 13), none, []⟩]
def r20_4 : List VOper := [
  ⟨some 4, .move (.c (.d (.bool false))), none, []⟩]
def r20_5 : List VOper := [
  ⟨some 15, .fieldAddr 2 (.t 2), none, []⟩,
  ⟨some 16, .load false 1 (.t 15), none, []⟩,
  ⟨some 17, .fieldAddr 2 (.t 3), none, []⟩,
  ⟨some 18, .load false 1 (.t 17), none, []⟩,
  ⟨some 19, .eqB true (.t 16) (.t 18), none, []⟩]
def r20_6 : List VOper := [
  ⟨some 4, .move (.c (.d (.bool false))), none, []⟩]
def r20_7 : List VOper := [
  ⟨some 4, .move (.c (.d (.bool true))), none, []⟩]
def v20 : VFn := ⟨2, [.tmp 4], (.seq (.region false 2 [2, 3] r20_0) (.seq (.seq (.region false 0 [2, 3, 9] r20_1) (.cond (.t 9) (.seq (.region false 0 [4] r20_2) .ret) .skip)) (.seq (.seq (.region false 0 [2, 3, 14] r20_3) (.cond (.t 14) (.seq (.region false 0 [4] r20_4) .ret) .skip)) (.seq (.seq (.region false 0 [19] r20_5) (.cond (.t 19) (.seq (.region false 0 [4] r20_6) .ret) .skip)) (.seq (.region false 0 [4] r20_7) .ret)))))⟩
/-! loop.example/g00461/laws.FnExactParts -/
def r21_0 : List VOper := [
  ⟨some 1, .box 0 (.t 0), none, []⟩,
  ⟨some 2, .move (.c (.d (.bool false))), none, []⟩]
def r21_1 : List VOper := [
  ⟨some 3, .move (.c (.d (.int .i64 1048576))), none, []⟩]
def r21_2 : List VOper := [
  ⟨some 7, .load true 3 (.t 1), none, []⟩,
  ⟨some 8, .move (.t 3), none, []⟩,
  ⟨some 9, .call true (.c (.fn 1 [])) [.t 7, .t 8], none, []⟩,
  ⟨some 3, .move (.t 9), none, []⟩]
def r21_3 : List VOper := [
  ⟨some 10, .move (.t 3), none, []⟩,
  ⟨some 11, .bin .lss (.t 10) (.c (.d (.int .i64 0))), none, []⟩]
def r21_4 : List VOper := [
  ⟨some 2, .move (.c (.d (.bool true))), none, []⟩]
def r21_5 : List VOper := [
  ⟨some 12, .load true 3 (.t 1), none, []⟩,
  ⟨some 13, .call true (.c (.fn 2 [])) [.t 12], none, []⟩,
  ⟨some 14, .call true (.c (.fn 22 [])) [.t 13], none, []⟩,
  ⟨some 4, .move (.t 14), none, []⟩]
def r21_6 : List VOper := [
  ⟨some 15, .load true 3 (.t 1), none, []⟩,
  ⟨some 16, .call true (.c (.fn 2 [])) [.t 15], none, []⟩,
  ⟨some 5, .alloc 0 [.int .i64 0, .int .i64 0, .sl .nil []], none, []⟩,
  ⟨none, .store false 3 (.t 5) (.t 16), none, []⟩]
def r21_7 : List VOper := [
  ⟨some 17, .load true 3 (.t 5), none, []⟩,
  ⟨some 18, .call true (.c (.fn 23 [])) [.t 17], none, []⟩,
  ⟨some 6, .move (.t 18), none, []⟩]
def r21_8 : List VOper := [
  ⟨some 19, .move (.t 6), none, []⟩,
  ⟨some 20, .move (.t 4), none, []⟩,
  ⟨some 21, .bin .neq (.t 19) (.t 20), none, []⟩]
def r21_9 : List VOper := [
  ⟨some 2, .move (.c (.d (.bool false))), none, []⟩]
def r21_10 : List VOper := [
  ⟨some 22, .load true 3 (.t 5), none, []⟩,
  ⟨some 23, .load true 3 (.t 1), none, []⟩,
  ⟨some 24, .call true (.c (.fn 2 [])) [.t 23], none, [1]⟩,
  ⟨some 25, .call true (.c (.fn 5 [])) [.t 22, .t 24], none, [0, 2]⟩,
  ⟨some 26, .not (.t 25), none, [3]⟩]
def r21_11 : List VOper := [
  ⟨some 2, .move (.c (.d (.bool false))), none, []⟩]
def r21_12 : List VOper := [
  ⟨some 2, .move (.c (.d (.bool true))), none, []⟩]
def v21 : VFn := ⟨1, [.tmp 2], (.seq (.region false 1 [1] r21_0) (.seq (.region false 0 [1, 3] r21_1) (.seq (.region false 0 [1, 3] r21_2) (.seq (.seq (.region false 0 [1, 11] r21_3) (.cond (.t 11) (.seq (.region false 0 [2] r21_4) .ret) .skip)) (.seq (.region false 0 [1, 4] r21_5) (.seq (.region false 1 [1, 4, 5] r21_6) (.seq (.region false 0 [1, 4, 5, 6] r21_7) (.seq (.seq (.region false 0 [1, 5, 21] r21_8) (.cond (.t 21) (.seq (.region false 0 [2] r21_9) .ret) .skip)) (.seq (.seq (.region true 0 [26] r21_10) (.cond (.t 26) (.seq (.region false 0 [2] r21_11) .ret) .skip)) (.seq (.region false 0 [2] r21_12) .ret))))))))))⟩
/-! loop.example/g00461/spec.Parts -/
def r22_0 : List VOper := [
  ⟨some 1, .box 0 (.t 0), none, []⟩,
  ⟨some 2, .move (.c (.d (.int .i64 0))), none, []⟩]
def r22_1 : List VOper := [
  ⟨some 3, .move (.c (.d (.int .i64 1))), none, []⟩]
def r22_2 : List VOper := [
  ⟨some 4, .move (.c (.d (.int .i64 0))), none, []⟩]
def r22_3 : List VOper := [
  ⟨some 5, .move (.t 4), none, []⟩,
  ⟨some 6, .fieldAddr 2 (.t 1), none, []⟩,
  ⟨some 7, .load false 1 (.t 6), none, []⟩,
  ⟨some 8, .len false (.t 7), none, []⟩,
  ⟨some 9, .bin .lss (.t 5) (.t 8), none, []⟩]
def r22_5 : List VOper := [
  ⟨some 12, .move (.t 3), none, []⟩,
  ⟨some 13, .fieldAddr 2 (.t 1), none, []⟩,
  ⟨some 14, .load false 1 (.t 13), none, []⟩,
  ⟨some 15, .move (.t 4), none, []⟩,
  ⟨some 16, .indexAddr 3 none (.t 14) (.t 15), none, []⟩,
  ⟨some 17, .load true 3 (.t 16), none, []⟩,
  ⟨some 18, .call true (.c (.fn 22 [])) [.t 17], none, []⟩,
  ⟨some 19, .bin .add (.t 12) (.t 18), none, []⟩,
  ⟨some 3, .move (.t 19), none, []⟩]
def r22_4 : List VOper := [
  ⟨some 10, .move (.t 4), none, []⟩,
  ⟨some 11, .bin .add (.t 10) (.c (.d (.int .i64 1))), none, []⟩,
  ⟨some 4, .move (.t 11), none, []⟩]
def b22_0 : VCode := (.seq (.seq (.region false 0 [1, 3, 4, 9] r22_3) (.cond (.t 9) .skip (.exit 0))) (.seq (.block 1 (.region false 0 [1, 3, 4] r22_5)) (.region false 0 [1, 3, 4] r22_4)))
def r22_6 : List VOper := [
  ⟨some 20, .move (.t 3), none, []⟩,
  ⟨some 2, .move (.t 20), none, []⟩]
def v22 : VFn := ⟨1, [.tmp 2], (.seq (.region false 1 [1] r22_0) (.seq (.region false 0 [1, 3] r22_1) (.seq (.seq (.region false 0 [1, 3, 4] r22_2) (.block 0 (.loop [1, 3, 4] b22_0))) (.seq (.region false 0 [2] r22_6) .ret))))⟩
/-! loop.example/g00461/impl.Parts -/
def r23_0 : List VOper := [
  ⟨some 1, .box 0 (.t 0), none, []⟩,
  ⟨some 2, .move (.c (.d (.int .i64 0))), none, []⟩]
def r23_1 : List VOper := [
  ⟨some 3, .alloc 0 [.int .i64 0], none, []⟩,
  ⟨none, .store false 1 (.t 3) (.c (.d (.int .i64 0))), none, []⟩]
def r23_2 : List VOper := [
  ⟨some 4, .load true 3 (.t 1), none, []⟩,
  ⟨some 5, .makeFunc 24 [.t 3], none, []⟩,
  ⟨some 6, .call false (.c (.fn 25 [])) [.t 4, .t 5], none, []⟩]
def r23_3 : List VOper := [
  ⟨some 7, .load false 1 (.t 3), none, []⟩,
  ⟨some 2, .move (.t 7), none, []⟩]
def v23 : VFn := ⟨1, [.tmp 2], (.seq (.region false 1 [1] r23_0) (.seq (.region false 1 [1, 3] r23_1) (.seq (.region false 0 [3] r23_2) (.seq (.region false 0 [2] r23_3) .ret))))⟩
/-! loop.example/g00461/impl.Parts$1 -/
def r24_0 : List VOper := [
  ⟨some 2, .box 0 (.t 0), none, []⟩]
def r24_1 : List VOper := [
  ⟨some 3, .load false 1 (.t 1), none, []⟩,
  ⟨some 4, .bin .add (.t 3) (.c (.d (.int .i64 1))), none, []⟩,
  ⟨none, .store false 1 (.t 1) (.t 4), none, []⟩]
def v24 : VFn := ⟨2, [], (.seq (.region false 1 [1] r24_0) (.region false 0 [] r24_1))⟩
/-! loop.example/g00461/impl.each -/
def r25_0 : List VOper := [
  ⟨some 2, .box 0 (.t 0), none, []⟩]
def r25_1 : List VOper := [
  ⟨some 6, .move (.t 1), none, []⟩,
  ⟨some 7, .load true 3 (.t 2), none, []⟩,
  ⟨some 8, .call false (.t 6) [.t 7], none, []⟩]
def r25_2 : List VOper := [
  ⟨some 9, .fieldAddr 2 (.t 2), none, []⟩,
  ⟨some 10, .load false 1 (.t 9), none, []⟩,
  ⟨some 11, .len false (.t 10), none, []⟩,
  ⟨some 12, .move (.c (.d (.int .i64 0))), none, []⟩]
def r25_3 : List VOper := [
  ⟨some 13, .bin .lss (.t 12) (.t 11), none, []⟩]
def r25_4 : List VOper := [
  ⟨some 14, .indexAddr 3 none (.t 10) (.t 12), none, []⟩,
  ⟨some 15, .load true 3 (.t 14), none, []⟩,
  ⟨some 5, .alloc 0 [.int .i64 0, .int .i64 0, .sl .nil []], none, []⟩,
  ⟨none, .store false 3 (.t 5) (.t 15), none, []⟩]
def r25_5 : List VOper := [
  ⟨some 16, .load true 3 (.t 5), none, []⟩,
  ⟨some 17, .move (.t 1), none, []⟩,
  ⟨some 18, .call false (.c (.fn 25 [])) [.t 16, .t 17], none, []⟩]
def r25_6 : List VOper := [
  ⟨some 19, .bin .add (.t 12) (.c (.d (.int .i64 1))), none, []⟩,
  ⟨some 12, .move (.t 19), none, []⟩]
def b25_0 : VCode := (.seq (.region false 0 [1, 10, 11, 12, 13] r25_3) (.seq (.cond (.t 13) .skip (.exit 0)) (.seq (.block 1 (.seq (.region false 1 [1, 5, 10, 11, 12] r25_4) (.region false 0 [1, 10, 11, 12] r25_5))) (.region false 0 [1, 10, 11, 12] r25_6))))
def v25 : VFn := ⟨2, [], (.seq (.region false 1 [1, 2] r25_0) (.seq (.region false 0 [1, 2] r25_1) (.seq (.region false 0 [1, 10, 11, 12] r25_2) (.block 0 (.loop [1, 10, 11, 12] b25_0)))))⟩
/-! loop.example/g00461/laws.FnExactArityOf -/
def r26_0 : List VOper := [
  ⟨some 4, .move (.c (.d (.bool false))), none, []⟩]
def r26_1 : List VOper := [
  ⟨some 5, .move (.c (.d (.int .i64 1048576))), none, []⟩]
def r26_2 : List VOper := [
  ⟨some 9, .move (.t 0), none, []⟩,
  ⟨some 10, .move (.t 5), none, []⟩,
  ⟨some 11, .call true (.c (.fn 11 [])) [.t 9, .t 10], none, []⟩,
  ⟨some 5, .move (.t 11), none, []⟩]
def r26_3 : List VOper := [
  ⟨some 12, .move (.t 5), none, []⟩,
  ⟨some 13, .bin .lss (.t 12) (.c (.d (.int .i64 0))), none, []⟩]
def r26_4 : List VOper := [
  ⟨some 4, .move (.c (.d (.bool true))), none, []⟩]
def r26_5 : List VOper := [
  ⟨some 14, .move (.t 0), none, []⟩,
  ⟨some 15, .call true (.c (.fn 12 [])) [.t 14], none, []⟩,
  ⟨some 16, .move (.t 1), none, []⟩,
  ⟨some 17, .call true (.c (.fn 27 [])) [.t 15, .t 16], none, []⟩,
  ⟨some 6, .move (.t 17), none, []⟩]
def r26_6 : List VOper := [
  ⟨some 18, .move (.t 0), none, []⟩,
  ⟨some 19, .call true (.c (.fn 12 [])) [.t 18], none, []⟩,
  ⟨some 7, .move (.t 19), none, []⟩]
def r26_7 : List VOper := [
  ⟨some 20, .move (.t 7), none, []⟩,
  ⟨some 21, .move (.t 1), none, []⟩,
  ⟨some 22, .call true (.c (.fn 28 [])) [.t 20, .t 21], none, []⟩,
  ⟨some 8, .move (.t 22), none, []⟩]
def r26_8 : List VOper := [
  ⟨some 23, .move (.t 8), none, []⟩,
  ⟨some 24, .move (.t 6), none, []⟩,
  ⟨some 25, .bin .neq (.t 23) (.t 24), none, []⟩]
def r26_9 : List VOper := [
  ⟨some 4, .move (.c (.d (.bool false))), none, []⟩]
def r26_10 : List VOper := [
  ⟨some 26, .move (.t 7), none, []⟩,
  ⟨some 27, .move (.t 0), none, []⟩,
  ⟨some 28, .call true (.c (.fn 12 [])) [.t 27], none, []⟩,
  ⟨some 29, .call true (.c (.fn 15 [])) [.t 26, .t 28], none, []⟩,
  ⟨some 30, .not (.t 29), none, []⟩]
def r26_11 : List VOper := [
  ⟨some 4, .move (.c (.d (.bool false))), none, []⟩]
def r26_12 : List VOper := [
  ⟨some 4, .move (.c (.d (.bool true))), none, []⟩]
def v26 : VFn := ⟨2, [.tmp 4], (.seq (.region false 0 [0, 1] r26_0) (.seq (.region false 0 [0, 1, 5] r26_1) (.seq (.region false 0 [0, 1, 5] r26_2) (.seq (.seq (.region false 0 [0, 1, 13] r26_3) (.cond (.t 13) (.seq (.region false 0 [4] r26_4) .ret) .skip)) (.seq (.region false 0 [0, 1, 6] r26_5) (.seq (.region false 0 [0, 1, 6, 7] r26_6) (.seq (.region false 0 [0, 6, 7, 8] r26_7) (.seq (.seq (.region false 0 [0, 7, 25] r26_8) (.cond (.t 25) (.seq (.region false 0 [4] r26_9) .ret) .skip)) (.seq (.seq (.region false 0 [30] r26_10) (.cond (.t 30) (.seq (.region false 0 [4] r26_11) .ret) .skip)) (.seq (.region false 0 [4] r26_12) .ret))))))))))⟩
/-! loop.example/g00461/spec.ArityOf -/
def r27_0 : List VOper := [
  ⟨some 4, .move (.c (.d (.int .i64 0))), none, []⟩]
def r27_1 : List VOper := [
  ⟨some 5, .move (.t 1), none, []⟩,
  ⟨some 6, .move (.t 0), none, []⟩,
  ⟨some 7, .len false (.t 6), none, []⟩,
  ⟨some 8, .bin .sub (.t 7) (.c (.d (.int .i64 1))), none, []⟩,
  ⟨some 9, .call true (.c (.fn 31 [])) [.t 5, .c (.d (.int .i64 0)), .t 8], none, []⟩,
  ⟨some 10, .not (.t 9), none, []⟩]
def r27_2 : List VOper := [
  ⟨some 4, .move (.c (.d (.int .i64 (-1)))), none, []⟩]
def r27_3 : List VOper := [
  ⟨some 11, .move (.t 0), none, []⟩,
  ⟨some 12, .move (.t 1), none, []⟩,
  ⟨some 13, .indexAddr 3 none (.t 11) (.t 12), none, []⟩,
  ⟨some 14, .fieldAddr 1 (.t 13), none, []⟩,
  ⟨some 15, .load false 1 (.t 14), none, []⟩,
  ⟨some 4, .move (.t 15), none, []⟩]
def v27 : VFn := ⟨2, [.tmp 4], (.seq (.region false 0 [0, 1] r27_0) (.seq (.seq (.region false 0 [0, 1, 10] r27_1) (.cond (.t 10) (.seq (.region false 0 [4] r27_2) .ret) .skip)) (.seq (.region false 0 [4] r27_3) .ret)))⟩
/-! loop.example/g00461/impl.ArityOf -/
def r28_0 : List VOper := [
  ⟨some 4, .move (.c (.d (.int .i64 0))), none, []⟩]
def r28_1 : List VOper := [
  ⟨some 5, .move (.t 0), none, []⟩,
  ⟨some 6, .move (.t 1), none, []⟩,
  ⟨some 7, .call true (.c (.fn 29 [])) [.t 5, .t 6], none, []⟩,
  ⟨some 8, .not (.t 7), none, []⟩]
def r28_2 : List VOper := [
  ⟨some 4, .move (.c (.d (.int .i64 (-1)))), none, []⟩]
def r28_3 : List VOper := [
  ⟨some 9, .move (.t 0), none, []⟩,
  ⟨some 10, .move (.t 1), none, []⟩,
  ⟨some 11, .indexAddr 3 none (.t 9) (.t 10), none, []⟩,
  ⟨some 12, .fieldAddr 1 (.t 11), none, []⟩,
  ⟨some 13, .load false 1 (.t 12), none, []⟩,
  ⟨some 4, .move (.t 13), none, []⟩]
def v28 : VFn := ⟨2, [.tmp 4], (.seq (.region false 0 [0, 1] r28_0) (.seq (.seq (.region false 0 [0, 1, 8] r28_1) (.cond (.t 8) (.seq (.region false 0 [4] r28_2) .ret) .skip)) (.seq (.region false 0 [4] r28_3) .ret)))⟩
/-! loop.example/g00461/impl.isSym -/
def r29_0 : List VOper := [
  ⟨some 4, .move (.c (.d (.bool false))), none, []⟩]
def r29_1 : List VOper := [
  ⟨some 5, .move (.t 1), none, []⟩,
  ⟨some 6, .move (.t 0), none, []⟩,
  ⟨some 7, .len false (.t 6), none, []⟩,
  ⟨some 8, .bin .sub (.t 7) (.c (.d (.int .i64 1))), none, []⟩,
  ⟨some 9, .call true (.c (.fn 30 [])) [.t 5, .c (.d (.int .i64 0)), .t 8], none, []⟩,
  ⟨some 4, .move (.t 9), none, []⟩]
def v29 : VFn := ⟨2, [.tmp 4], (.seq (.region false 0 [0, 1] r29_0) (.seq (.region false 0 [4] r29_1) .ret))⟩
/-! loop.example/g00461/impl.from -/
def r30_0 : List VOper := [
  ⟨some 6, .move (.c (.d (.bool false))), none, []⟩]
def r30_1 : List VOper := [
  ⟨some 7, .move (.t 0), none, []⟩,
  ⟨some 8, .move (.t 1), none, []⟩,
  ⟨some 9, .bin .geq (.t 7) (.t 8), none, []⟩,
  ⟨some 10, .move (.t 9), none, []⟩,
  ⟨some 11, .move (.t 0), some (10, true), []⟩,
  ⟨some 12, .move (.t 2), some (10, true), []⟩,
  ⟨some 13, .bin .leq (.t 11) (.t 12), some (10, true), []⟩,
  ⟨some 14, .pick (.t 10) (.t 13) (.c (.d (.bool false))), none, []⟩,
  ⟨some 6, .move (.t 14), none, []⟩]
def v30 : VFn := ⟨3, [.tmp 6], (.seq (.region false 0 [0, 1, 2] r30_0) (.seq (.region false 0 [6] r30_1) .ret))⟩
/-! loop.example/g00461/spec.l1In -/
def r31_0 : List VOper := [
  ⟨some 6, .move (.c (.d (.bool false))), none, []⟩]
def r31_1 : List VOper := [
  ⟨some 7, .move (.t 0), none, []⟩,
  ⟨some 8, .move (.t 1), none, []⟩,
  ⟨some 9, .bin .geq (.t 7) (.t 8), none, []⟩,
  ⟨some 10, .move (.t 9), none, []⟩,
  ⟨some 11, .move (.t 0), some (10, true), []⟩,
  ⟨some 12, .move (.t 2), some (10, true), []⟩,
  ⟨some 13, .bin .leq (.t 11) (.t 12), some (10, true), []⟩,
  ⟨some 14, .pick (.t 10) (.t 13) (.c (.d (.bool false))), none, []⟩,
  ⟨some 6, .move (.t 14), none, []⟩]
def v31 : VFn := ⟨3, [.tmp 6], (.seq (.region false 0 [0, 1, 2] r31_0) (.seq (.region false 0 [6] r31_1) .ret))⟩
/-! loop.example/g00461/laws.FnExactBlind -/
def r32_0 : List VOper := [
  ⟨some 4, .move (.c (.d (.bool false))), none, []⟩]
def r32_1 : List VOper := [
  ⟨some 5, .move (.c (.d (.int .i64 1048576))), none, []⟩]
def r32_2 : List VOper := [
  ⟨some 9, .move (.t 0), none, []⟩,
  ⟨some 10, .move (.t 5), none, []⟩,
  ⟨some 11, .call true (.c (.fn 11 [])) [.t 9, .t 10], none, []⟩,
  ⟨some 5, .move (.t 11), none, []⟩]
def r32_3 : List VOper := [
  ⟨some 12, .move (.t 5), none, []⟩,
  ⟨some 13, .bin .lss (.t 12) (.c (.d (.int .i64 0))), none, []⟩]
def r32_4 : List VOper := [
  ⟨some 4, .move (.c (.d (.bool true))), none, []⟩]
def r32_5 : List VOper := [
  ⟨some 14, .move (.t 0), none, []⟩,
  ⟨some 15, .call true (.c (.fn 12 [])) [.t 14], none, []⟩,
  ⟨some 16, .move (.t 1), none, []⟩,
  ⟨some 17, .call true (.c (.fn 33 [])) [.t 15, .t 16], none, []⟩,
  ⟨some 6, .move (.t 17), none, []⟩]
def r32_6 : List VOper := [
  ⟨some 18, .move (.t 0), none, []⟩,
  ⟨some 19, .call true (.c (.fn 12 [])) [.t 18], none, []⟩,
  ⟨some 7, .move (.t 19), none, []⟩]
def r32_7 : List VOper := [
  ⟨some 20, .move (.t 7), none, []⟩,
  ⟨some 21, .move (.t 1), none, []⟩,
  ⟨some 22, .call true (.c (.fn 34 [])) [.t 20, .t 21], none, []⟩,
  ⟨some 8, .move (.t 22), none, []⟩]
def r32_8 : List VOper := [
  ⟨some 23, .move (.t 8), none, []⟩,
  ⟨some 24, .move (.t 6), none, []⟩,
  ⟨some 25, .eqB true (.t 23) (.t 24), none, []⟩]
def r32_9 : List VOper := [
  ⟨some 4, .move (.c (.d (.bool false))), none, []⟩]
def r32_10 : List VOper := [
  ⟨some 26, .move (.t 7), none, []⟩,
  ⟨some 27, .move (.t 0), none, []⟩,
  ⟨some 28, .call true (.c (.fn 12 [])) [.t 27], none, []⟩,
  ⟨some 29, .call true (.c (.fn 15 [])) [.t 26, .t 28], none, []⟩,
  ⟨some 30, .not (.t 29), none, []⟩]
def r32_11 : List VOper := [
  ⟨some 4, .move (.c (.d (.bool false))), none, []⟩]
def r32_12 : List VOper := [
  ⟨some 4, .move (.c (.d (.bool true))), none, []⟩]
def v32 : VFn := ⟨2, [.tmp 4], (.seq (.region false 0 [0, 1] r32_0) (.seq (.region false 0 [0, 1, 5] r32_1) (.seq (.region false 0 [0, 1, 5] r32_2) (.seq (.seq (.region false 0 [0, 1, 13] r32_3) (.cond (.t 13) (.seq (.region false 0 [4] r32_4) .ret) .skip)) (.seq (.region false 0 [0, 1, 6] r32_5) (.seq (.region false 0 [0, 1, 6, 7] r32_6) (.seq (.region false 0 [0, 6, 7, 8] r32_7) (.seq (.seq (.region false 0 [0, 7, 25] r32_8) (.cond (.t 25) (.seq (.region false 0 [4] r32_9) .ret) .skip)) (.seq (.seq (.region false 0 [30] r32_10) (.cond (.t 30) (.seq (.region false 0 [4] r32_11) .ret) .skip)) (.seq (.region false 0 [4] r32_12) .ret))))))))))⟩
/-! loop.example/g00461/spec.Blind -/
def r33_0 : List VOper := [
  ⟨some 4, .move (.c (.d (.bool false))), none, []⟩]
def r33_1 : List VOper := [
  ⟨some 5, .move (.t 1), none, []⟩,
  ⟨some 6, .move (.t 0), none, []⟩,
  ⟨some 7, .len false (.t 6), none, []⟩,
  ⟨some 8, .bin .sub (.t 7) (.c (.d (.int .i64 1))), none, []⟩,
  ⟨some 9, .call true (.c (.fn 31 [])) [.t 5, .c (.d (.int .i64 0)), .t 8], none, []⟩,
  ⟨some 10, .move (.t 9), none, []⟩,
  ⟨some 11, .move (.t 0), some (10, true), []⟩,
  ⟨some 12, .move (.t 1), some (10, true), []⟩,
  ⟨some 13, .indexAddr 3 none (.t 11) (.t 12), some (10, true), []⟩,
  ⟨some 14, .fieldAddr 2 (.t 13), some (10, true), []⟩,
  ⟨some 15, .load false 1 (.t 14), some (10, true), []⟩,
  ⟨some 16, .pick (.t 10) (.t 15) (.c (.d (.bool false))), none, []⟩,
  ⟨some 4, .move (.t 16), none, []⟩]
def v33 : VFn := ⟨2, [.tmp 4], (.seq (.region false 0 [0, 1] r33_0) (.seq (.region false 0 [4] r33_1) .ret))⟩
/-! loop.example/g00461/impl.Blind -/
def r34_0 : List VOper := [
  ⟨some 4, .move (.c (.d (.bool false))), none, []⟩]
def r34_1 : List VOper := [
  ⟨some 5, .move (.t 0), none, []⟩,
  ⟨some 6, .move (.t 1), none, []⟩,
  ⟨some 7, .call true (.c (.fn 29 [])) [.t 5, .t 6], none, []⟩,
  ⟨some 8, .move (.t 7), none, []⟩,
  ⟨some 9, .move (.t 0), some (8, true), []⟩,
  ⟨some 10, .move (.t 1), some (8, true), []⟩,
  ⟨some 11, .indexAddr 3 none (.t 9) (.t 10), some (8, true), []⟩,
  ⟨some 12, .fieldAddr 2 (.t 11), some (8, true), []⟩,
  ⟨some 13, .load false 1 (.t 12), some (8, true), []⟩,
  ⟨some 14, .pick (.t 8) (.t 13) (.c (.d (.bool false))), none, []⟩,
  ⟨some 4, .move (.t 14), none, []⟩]
def v34 : VFn := ⟨2, [.tmp 4], (.seq (.region false 0 [0, 1] r34_0) (.seq (.region false 0 [4] r34_1) .ret))⟩
/-! loop.example/g00461/laws.FnExactNumber -/
def r35_0 : List VOper := [
  ⟨some 2, .move (.c (.d (.bool false))), none, []⟩]
def r35_1 : List VOper := [
  ⟨some 7, .move (.t 0), none, []⟩,
  ⟨some 8, .len true (.t 7), none, []⟩,
  ⟨some 9, .bin .gtr (.t 8) (.c (.d (.int .i64 1048576))), none, []⟩]
def r35_2 : List VOper := [
  ⟨some 2, .move (.c (.d (.bool true))), none, []⟩]
def r35_3 : List VOper := [
  ⟨some 11, .move (.t 0), none, []⟩,
  ⟨some 12, .call true (.c (.fn 36 [])) [.t 11], none, []⟩,
  ⟨some 10, .move (.t 12), none, []⟩,
  ⟨some 13, .extract (.t 10) 0, none, []⟩,
  ⟨some 14, .extract (.t 10) 1, none, []⟩,
  ⟨some 3, .move (.t 13), none, []⟩,
  ⟨some 4, .move (.t 14), none, []⟩]
def r35_4 : List VOper := [
  ⟨some 16, .move (.t 0), none, []⟩,
  ⟨some 17, .call true (.c (.fn 37 [])) [.t 16], none, []⟩,
  ⟨some 15, .move (.t 17), none, []⟩,
  ⟨some 18, .extract (.t 15) 0, none, []⟩,
  ⟨some 19, .extract (.t 15) 1, none, []⟩,
  ⟨some 5, .move (.t 18), none, []⟩,
  ⟨some 6, .move (.t 19), none, []⟩]
def r35_5 : List VOper := [
  ⟨some 20, .move (.t 5), none, []⟩,
  ⟨some 21, .move (.t 3), none, []⟩,
  ⟨some 22, .bin .neq (.t 20) (.t 21), none, []⟩,
  ⟨some 23, .move (.t 22), none, []⟩,
  ⟨some 24, .move (.t 6), some (23, false), []⟩,
  ⟨some 25, .move (.t 4), some (23, false), []⟩,
  ⟨some 26, .eqB true (.t 24) (.t 25), some (23, false), []⟩,
  ⟨some 27, .pick (.t 23) (.c (.d (.bool true))) (.t 26), none, []⟩]
def r35_6 : List VOper := [
  ⟨some 2, .move (.c (.d (.bool false))), none, []⟩]
def r35_7 : List VOper := [
  ⟨some 2, .move (.c (.d (.bool true))), none, []⟩]
def v35 : VFn := ⟨1, [.tmp 2], (.seq (.region false 0 [0] r35_0) (.seq (.seq (.region false 0 [0, 9] r35_1) (.cond (.t 9) (.seq (.region false 0 [2] r35_2) .ret) .skip)) (.seq (.region false 0 [0, 3, 4] r35_3) (.seq (.region false 0 [3, 4, 5, 6] r35_4) (.seq (.seq (.region false 0 [27] r35_5) (.cond (.t 27) (.seq (.region false 0 [2] r35_6) .ret) .skip)) (.seq (.region false 0 [2] r35_7) .ret))))))⟩
/-! loop.example/g00461/spec.Number -/
def r36_0 : List VOper := [
  ⟨some 2, .move (.c (.d (.int .i64 0))), none, []⟩,
  ⟨some 3, .move (.c (.d (.bool false))), none, []⟩]
def r36_1 : List VOper := [
  ⟨some 6, .move (.t 0), none, []⟩,
  ⟨some 7, .len true (.t 6), none, []⟩,
  ⟨some 8, .bin .lss (.t 7) (.c (.d (.int .i64 1))), none, []⟩,
  ⟨some 9, .move (.t 8), none, []⟩,
  ⟨some 10, .move (.t 0), some (9, false), []⟩,
  ⟨some 11, .len true (.t 10), some (9, false), []⟩,
  ⟨some 12, .bin .gtr (.t 11) (.c (.d (.int .i64 6))), some (9, false), []⟩,
  ⟨some 13, .pick (.t 9) (.c (.d (.bool true))) (.t 12), none, []⟩]
def r36_2 : List VOper := [
  ⟨some 2, .move (.c (.d (.int .i64 0))), none, []⟩,
  ⟨some 3, .move (.c (.d (.bool false))), none, []⟩]
def r36_3 : List VOper := [
  ⟨some 4, .move (.c (.d (.int .i64 0))), none, []⟩]
def r36_4 : List VOper := [
  ⟨some 5, .move (.c (.d (.int .i64 0))), none, []⟩]
def r36_5 : List VOper := [
  ⟨some 14, .move (.t 5), none, []⟩,
  ⟨some 15, .move (.t 0), none, []⟩,
  ⟨some 16, .len true (.t 15), none, []⟩,
  ⟨some 17, .bin .lss (.t 14) (.t 16), none, []⟩]
def r36_7 : List VOper := [
  ⟨some 20, .move (.t 0), none, []⟩,
  ⟨some 21, .move (.t 5), none, []⟩,
  ⟨some 22, .index (.t 20) (.t 21), none, []⟩,
  ⟨some 23, .bin .lss (.t 22) (.c (.d (.int .u8 48))), none, []⟩,
  ⟨some 24, .move (.t 23), none, []⟩,
  ⟨some 25, .move (.t 0), some (24, false), []⟩,
  ⟨some 26, .move (.t 5), some (24, false), []⟩,
  ⟨some 27, .index (.t 25) (.t 26), some (24, false), []⟩,
  ⟨some 28, .bin .gtr (.t 27) (.c (.d (.int .u8 57))), some (24, false), []⟩,
  ⟨some 29, .pick (.t 24) (.c (.d (.bool true))) (.t 28), none, []⟩]
def r36_8 : List VOper := [
  ⟨some 2, .move (.c (.d (.int .i64 0))), none, []⟩,
  ⟨some 3, .move (.c (.d (.bool false))), none, []⟩]
def r36_9 : List VOper := [
  ⟨some 30, .move (.t 4), none, []⟩,
  ⟨some 31, .bin .mul (.c (.d (.int .i64 10))) (.t 30), none, []⟩,
  ⟨some 32, .move (.t 0), none, []⟩,
  ⟨some 33, .move (.t 5), none, []⟩,
  ⟨some 34, .index (.t 32) (.t 33), none, []⟩,
  ⟨some 35, .conv (.kind .i64) (.t 34), none, []⟩,
  ⟨some 36, .bin .add (.t 31) (.t 35), none, []⟩,
  ⟨some 37, .bin .sub (.t 36) (.c (.d (.int .i64 48))), none, []⟩,
  ⟨some 4, .move (.t 37), none, []⟩]
def r36_6 : List VOper := [
  ⟨some 18, .move (.t 5), none, []⟩,
  ⟨some 19, .bin .add (.t 18) (.c (.d (.int .i64 1))), none, []⟩,
  ⟨some 5, .move (.t 19), none, []⟩]
def b36_0 : VCode := (.seq (.seq (.region false 0 [0, 4, 5, 17] r36_5) (.cond (.t 17) .skip (.exit 0))) (.seq (.block 1 (.seq (.seq (.region false 0 [0, 4, 5, 29] r36_7) (.cond (.t 29) (.seq (.region false 0 [2, 3] r36_8) .ret) .skip)) (.region false 0 [0, 4, 5] r36_9))) (.region false 0 [0, 4, 5] r36_6)))
def r36_10 : List VOper := [
  ⟨some 38, .move (.t 4), none, []⟩,
  ⟨some 39, .call true (.c (.fn 39 [])) [.t 38], none, []⟩,
  ⟨some 40, .move (.t 0), none, []⟩,
  ⟨some 41, .bin .neq (.t 39) (.t 40), none, []⟩]
def r36_11 : List VOper := [
  ⟨some 2, .move (.c (.d (.int .i64 0))), none, []⟩,
  ⟨some 3, .move (.c (.d (.bool false))), none, []⟩]
def r36_12 : List VOper := [
  ⟨some 42, .move (.t 4), none, []⟩,
  ⟨some 2, .move (.t 42), none, []⟩,
  ⟨some 3, .move (.c (.d (.bool true))), none, []⟩]
def v36 : VFn := ⟨1, [.tmp 2, .tmp 3], (.seq (.region false 0 [0] r36_0) (.seq (.seq (.region false 0 [0, 13] r36_1) (.cond (.t 13) (.seq (.region false 0 [2, 3] r36_2) .ret) .skip)) (.seq (.region false 0 [0, 4] r36_3) (.seq (.seq (.region false 0 [0, 4, 5] r36_4) (.block 0 (.loop [0, 4, 5] b36_0))) (.seq (.seq (.region false 0 [4, 41] r36_10) (.cond (.t 41) (.seq (.region false 0 [2, 3] r36_11) .ret) .skip)) (.seq (.region false 0 [2, 3] r36_12) .ret))))))⟩
/-! loop.example/g00461/impl.Number -/
def r37_0 : List VOper := [
  ⟨some 2, .move (.c (.d (.int .i64 0))), none, []⟩,
  ⟨some 3, .move (.c (.d (.bool false))), none, []⟩]
def r37_1 : List VOper := [
  ⟨some 6, .move (.t 0), none, []⟩,
  ⟨some 7, .bin .eql (.t 6) (.c (.d (.str ⟨#[]⟩))), none, []⟩,
  ⟨some 8, .move (.t 7), none, []⟩,
  ⟨some 9, .move (.t 0), some (8, false), []⟩,
  ⟨some 10, .len true (.t 9), some (8, false), []⟩,
  ⟨some 11, .bin .gtr (.t 10) (.c (.d (.int .i64 6))), some (8, false), []⟩,
  ⟨some 12, .pick (.t 8) (.c (.d (.bool true))) (.t 11), none, []⟩]
def r37_2 : List VOper := [
  ⟨some 2, .move (.c (.d (.int .i64 0))), none, []⟩,
  ⟨some 3, .move (.c (.d (.bool false))), none, []⟩]
def r37_3 : List VOper := [
  ⟨some 4, .move (.c (.d (.int .i64 0))), none, []⟩]
def r37_4 : List VOper := [
  ⟨some 13, .move (.t 0), none, []⟩,
  ⟨some 14, .len true (.t 13), none, []⟩,
  ⟨some 15, .move (.c (.d (.int .i64 0))), none, []⟩]
def r37_5 : List VOper := [
  ⟨some 16, .bin .lss (.t 15) (.t 14), none, []⟩]
def r37_6 : List VOper := [
  ⟨some 17, .move (.t 15), none, []⟩,
  ⟨some 5, .move (.t 17), none, []⟩]
def r37_7 : List VOper := [
  ⟨some 18, .move (.t 0), none, []⟩,
  ⟨some 19, .move (.t 5), none, []⟩,
  ⟨some 20, .index (.t 18) (.t 19), none, []⟩,
  ⟨some 21, .bin .lss (.t 20) (.c (.d (.int .u8 48))), none, []⟩,
  ⟨some 22, .move (.t 21), none, []⟩,
  ⟨some 23, .move (.t 0), some (22, false), []⟩,
  ⟨some 24, .move (.t 5), some (22, false), []⟩,
  ⟨some 25, .index (.t 23) (.t 24), some (22, false), []⟩,
  ⟨some 26, .bin .gtr (.t 25) (.c (.d (.int .u8 57))), some (22, false), []⟩,
  ⟨some 27, .pick (.t 22) (.c (.d (.bool true))) (.t 26), none, []⟩]
def r37_8 : List VOper := [
  ⟨some 2, .move (.c (.d (.int .i64 0))), none, []⟩,
  ⟨some 3, .move (.c (.d (.bool false))), none, []⟩]
def r37_9 : List VOper := [
  ⟨some 28, .move (.t 4), none, []⟩,
  ⟨some 29, .bin .mul (.c (.d (.int .i64 10))) (.t 28), none, []⟩,
  ⟨some 30, .move (.t 0), none, []⟩,
  ⟨some 31, .move (.t 5), none, []⟩,
  ⟨some 32, .index (.t 30) (.t 31), none, []⟩,
  ⟨some 33, .bin .sub (.t 32) (.c (.d (.int .u8 48))), none, []⟩,
  ⟨some 34, .conv (.kind .i64) (.t 33), none, []⟩,
  ⟨some 35, .bin .add (.t 29) (.t 34), none, []⟩,
  ⟨some 4, .move (.t 35), none, []⟩]
def r37_10 : List VOper := [
  ⟨some 36, .bin .add (.t 15) (.c (.d (.int .i64 1))), none, []⟩,
  ⟨some 15, .move (.t 36), none, []⟩]
def b37_0 : VCode := (.seq (.region false 0 [0, 4, 14, 15, 16] r37_5) (.seq (.cond (.t 16) .skip (.exit 0)) (.seq (.block 1 (.seq (.region false 0 [0, 4, 5, 14, 15] r37_6) (.seq (.seq (.region false 0 [0, 4, 5, 14, 15, 27] r37_7) (.cond (.t 27) (.seq (.region false 0 [2, 3] r37_8) .ret) .skip)) (.region false 0 [0, 4, 14, 15] r37_9)))) (.region false 0 [0, 4, 14, 15] r37_10))))
def r37_11 : List VOper := [
  ⟨some 37, .move (.t 4), none, []⟩,
  ⟨some 38, .call true (.c (.fn 38 [])) [.t 37], none, []⟩,
  ⟨some 39, .move (.t 0), none, []⟩,
  ⟨some 40, .bin .neq (.t 38) (.t 39), none, []⟩]
def r37_12 : List VOper := [
  ⟨some 2, .move (.c (.d (.int .i64 0))), none, []⟩,
  ⟨some 3, .move (.c (.d (.bool false))), none, []⟩]
def r37_13 : List VOper := [
  ⟨some 41, .move (.t 4), none, []⟩,
  ⟨some 2, .move (.t 41), none, []⟩,
  ⟨some 3, .move (.c (.d (.bool true))), none, []⟩]
def v37 : VFn := ⟨1, [.tmp 2, .tmp 3], (.seq (.region false 0 [0] r37_0) (.seq (.seq (.region false 0 [0, 12] r37_1) (.cond (.t 12) (.seq (.region false 0 [2, 3] r37_2) .ret) .skip)) (.seq (.region false 0 [0, 4] r37_3) (.seq (.seq (.region false 0 [0, 4, 14, 15] r37_4) (.block 0 (.loop [0, 4, 14, 15] b37_0))) (.seq (.seq (.region false 0 [4, 40] r37_11) (.cond (.t 40) (.seq (.region false 0 [2, 3] r37_12) .ret) .skip)) (.seq (.region false 0 [2, 3] r37_13) .ret))))))⟩
/-! loop.example/g00461/impl.Digits -/
def r38_0 : List VOper := [
  ⟨some 2, .move (.c (.d (.str ⟨#[]⟩))), none, []⟩]
def r38_1 : List VOper := [
  ⟨some 4, .move (.t 0), none, []⟩,
  ⟨some 5, .bin .lss (.t 4) (.c (.d (.int .i64 0))), none, []⟩,
  ⟨some 6, .move (.t 5), none, []⟩,
  ⟨some 7, .move (.t 0), some (6, true), []⟩,
  ⟨some 8, .bin .gtr (.t 7) (.c (.d (.int .i64 (-10)))), some (6, true), []⟩,
  ⟨some 9, .pick (.t 6) (.t 8) (.c (.d (.bool false))), none, []⟩,
  ⟨some 3, .move (.t 9), none, []⟩]
def r38_2 : List VOper := [
  ⟨some 10, .move (.t 0), none, []⟩,
  ⟨some 11, .bin .sub (.c (.d (.int .i64 0))) (.t 10), none, []⟩,
  ⟨some 12, .call true (.c (.fn 38 [])) [.t 11], none, []⟩,
  ⟨some 13, .bin .add (.c (.d (.str ⟨#[45]⟩))) (.t 12), none, []⟩,
  ⟨some 2, .move (.t 13), none, []⟩]
def r38_3 : List VOper := [
  ⟨some 15, .move (.t 0), none, []⟩,
  ⟨some 16, .bin .lss (.t 15) (.c (.d (.int .i64 0))), none, []⟩,
  ⟨some 14, .move (.t 16), none, []⟩]
def r38_4 : List VOper := [
  ⟨some 17, .move (.t 0), none, []⟩,
  ⟨some 18, .bin .quo (.t 17) (.c (.d (.int .i64 10))), none, []⟩,
  ⟨some 19, .call true (.c (.fn 38 [])) [.t 18], none, []⟩,
  ⟨some 20, .move (.t 0), none, []⟩,
  ⟨some 21, .bin .rem (.t 20) (.c (.d (.int .i64 10))), none, []⟩,
  ⟨some 22, .bin .sub (.c (.d (.int .i64 0))) (.t 21), none, []⟩,
  ⟨some 23, .call true (.c (.fn 38 [])) [.t 22], none, []⟩,
  ⟨some 24, .bin .add (.t 19) (.t 23), none, []⟩,
  ⟨some 2, .move (.t 24), none, []⟩]
def r38_5 : List VOper := [
  ⟨some 26, .move (.t 0), none, []⟩,
  ⟨some 27, .bin .lss (.t 26) (.c (.d (.int .i64 10))), none, []⟩,
  ⟨some 25, .move (.t 27), none, []⟩]
def r38_6 : List VOper := [
  ⟨some 28, .move (.t 0), none, []⟩,
  ⟨some 29, .bin .add (.c (.d (.int .i64 48))) (.t 28), none, []⟩,
  ⟨some 30, .conv (.kind .i32) (.t 29), none, []⟩,
  ⟨some 31, .conv .rune (.t 30), none, []⟩,
  ⟨some 2, .move (.t 31), none, []⟩]
def r38_7 : List VOper := [
  ⟨some 32, .move (.t 0), none, []⟩,
  ⟨some 33, .bin .quo (.t 32) (.c (.d (.int .i64 10))), none, []⟩,
  ⟨some 34, .call true (.c (.fn 38 [])) [.t 33], none, []⟩,
  ⟨some 35, .move (.t 0), none, []⟩,
  ⟨some 36, .bin .rem (.t 35) (.c (.d (.int .i64 10))), none, []⟩,
  ⟨some 37, .bin .add (.c (.d (.int .i64 48))) (.t 36), none, []⟩,
  ⟨some 38, .conv (.kind .i32) (.t 37), none, []⟩,
  ⟨some 39, .conv .rune (.t 38), none, []⟩,
  ⟨some 40, .bin .add (.t 34) (.t 39), none, []⟩,
  ⟨some 2, .move (.t 40), none, []⟩]
def v38 : VFn := ⟨1, [.tmp 2], (.seq (.region false 0 [0] r38_0) (.seq (.block 0 (.seq (.region false 0 [0, 3] r38_1) (.cond (.t 3) (.seq (.region false 0 [2] r38_2) .ret) (.seq (.region false 0 [0, 14] r38_3) (.cond (.t 14) (.seq (.region false 0 [2] r38_4) .ret) (.seq (.region false 0 [0, 25] r38_5) (.cond (.t 25) (.seq (.region false 0 [2] r38_6) .ret) .skip))))))) (.seq (.region false 0 [2] r38_7) .ret)))⟩
/-! loop.example/g00461/spec.Digits -/
def r39_0 : List VOper := [
  ⟨some 2, .move (.c (.d (.str ⟨#[]⟩))), none, []⟩]
def r39_1 : List VOper := [
  ⟨some 6, .move (.t 0), none, []⟩,
  ⟨some 7, .bin .eql (.t 6) (.c (.d (.int .i64 0))), none, []⟩]
def r39_2 : List VOper := [
  ⟨some 2, .move (.c (.d (.str ⟨#[48]⟩))), none, []⟩]
def r39_3 : List VOper := [
  ⟨some 8, .move (.t 0), none, []⟩,
  ⟨some 9, .bin .lss (.t 8) (.c (.d (.int .i64 0))), none, []⟩,
  ⟨some 3, .move (.t 9), none, []⟩]
def r39_4 : List VOper := [
  ⟨some 4, .move (.c (.d (.str ⟨#[]⟩))), none, []⟩]
def r39_5 : List VOper := [
  ⟨some 10, .move (.t 0), none, []⟩,
  ⟨some 11, .bin .neq (.t 10) (.c (.d (.int .i64 0))), none, []⟩]
def r39_6 : List VOper := [
  ⟨some 12, .move (.t 0), none, []⟩,
  ⟨some 13, .bin .rem (.t 12) (.c (.d (.int .i64 10))), none, []⟩,
  ⟨some 5, .move (.t 13), none, []⟩]
def r39_7 : List VOper := [
  ⟨some 14, .move (.t 5), none, []⟩,
  ⟨some 15, .bin .lss (.t 14) (.c (.d (.int .i64 0))), none, []⟩]
def r39_8 : List VOper := [
  ⟨some 16, .move (.t 5), none, []⟩,
  ⟨some 17, .bin .sub (.c (.d (.int .i64 0))) (.t 16), none, []⟩,
  ⟨some 5, .move (.t 17), none, []⟩]
def r39_9 : List VOper := [
  ⟨some 18, .move (.t 5), none, []⟩,
  ⟨some 19, .bin .add (.c (.d (.int .i64 48))) (.t 18), none, []⟩,
  ⟨some 20, .conv (.kind .u8) (.t 19), none, []⟩,
  ⟨some 21, .buildSlice 1 (.int .u8 0) 1 [(0, .t 20)], none, []⟩,
  ⟨some 22, .conv .bytes (.t 21), none, []⟩,
  ⟨some 23, .move (.t 4), none, []⟩,
  ⟨some 24, .bin .add (.t 22) (.t 23), none, []⟩,
  ⟨some 4, .move (.t 24), none, []⟩]
def r39_10 : List VOper := [
  ⟨some 25, .move (.t 0), none, []⟩,
  ⟨some 26, .bin .quo (.t 25) (.c (.d (.int .i64 10))), none, []⟩,
  ⟨some 0, .move (.t 26), none, []⟩]
def b39_0 : VCode := (.seq (.seq (.region false 0 [0, 3, 4, 11] r39_5) (.cond (.t 11) .skip (.exit 0))) (.block 1 (.seq (.region false 0 [0, 3, 4, 5] r39_6) (.seq (.seq (.region false 0 [0, 3, 4, 5, 15] r39_7) (.cond (.t 15) (.region false 0 [0, 3, 4, 5] r39_8) .skip)) (.seq (.region false 0 [0, 3, 4] r39_9) (.region false 0 [0, 3, 4] r39_10))))))
def r39_11 : List VOper := [
  ⟨some 27, .move (.t 3), none, []⟩]
def r39_12 : List VOper := [
  ⟨some 28, .move (.t 4), none, []⟩,
  ⟨some 29, .bin .add (.c (.d (.str ⟨#[45]⟩))) (.t 28), none, []⟩,
  ⟨some 2, .move (.t 29), none, []⟩]
def r39_13 : List VOper := [
  ⟨some 30, .move (.t 4), none, []⟩,
  ⟨some 2, .move (.t 30), none, []⟩]
def v39 : VFn := ⟨1, [.tmp 2], (.seq (.region false 0 [0] r39_0) (.seq (.seq (.region false 0 [0, 7] r39_1) (.cond (.t 7) (.seq (.region false 0 [2] r39_2) .ret) .skip)) (.seq (.region false 0 [0, 3] r39_3) (.seq (.region false 0 [0, 3, 4] r39_4) (.seq (.block 0 (.loop [0, 3, 4] b39_0)) (.seq (.seq (.region false 0 [4, 27] r39_11) (.cond (.t 27) (.seq (.region false 0 [2] r39_12) .ret) .skip)) (.seq (.region false 0 [2] r39_13) .ret)))))))⟩
/-! loop.example/g00461/laws.FnExactSolves -/
def r40_0 : List VOper := [
  ⟨some 6, .move (.c (.d (.bool false))), none, []⟩]
def r40_1 : List VOper := [
  ⟨some 12, .move (.t 0), none, []⟩,
  ⟨some 13, .len false (.t 12), none, []⟩,
  ⟨some 14, .bin .gtr (.t 13) (.c (.d (.int .i64 1048576))), none, []⟩]
def r40_2 : List VOper := [
  ⟨some 6, .move (.c (.d (.bool true))), none, []⟩]
def r40_3 : List VOper := [
  ⟨some 15, .move (.t 1), none, []⟩,
  ⟨some 16, .len false (.t 15), none, []⟩,
  ⟨some 17, .bin .gtr (.t 16) (.c (.d (.int .i64 1048576))), none, []⟩]
def r40_4 : List VOper := [
  ⟨some 6, .move (.c (.d (.bool true))), none, []⟩]
def r40_5 : List VOper := [
  ⟨some 18, .move (.t 2), none, []⟩,
  ⟨some 19, .len false (.t 18), none, []⟩,
  ⟨some 20, .bin .gtr (.t 19) (.c (.d (.int .i64 1048576))), none, []⟩]
def r40_6 : List VOper := [
  ⟨some 6, .move (.c (.d (.bool true))), none, []⟩]
def r40_7 : List VOper := [
  ⟨some 21, .move (.t 0), none, []⟩,
  ⟨some 22, .call true (.c (.fn 41 [])) [.t 21], none, []⟩,
  ⟨some 23, .move (.t 1), none, []⟩,
  ⟨some 24, .call true (.c (.fn 41 [])) [.t 23], none, []⟩,
  ⟨some 25, .move (.t 2), none, []⟩,
  ⟨some 26, .call true (.c (.fn 41 [])) [.t 25], none, []⟩,
  ⟨some 27, .call true (.c (.fn 42 [])) [.t 22, .t 24, .t 26], none, []⟩,
  ⟨some 7, .move (.t 27), none, []⟩]
def r40_8 : List VOper := [
  ⟨some 28, .move (.t 0), none, []⟩,
  ⟨some 29, .call true (.c (.fn 41 [])) [.t 28], none, []⟩,
  ⟨some 8, .move (.t 29), none, []⟩]
def r40_9 : List VOper := [
  ⟨some 30, .move (.t 1), none, []⟩,
  ⟨some 31, .call true (.c (.fn 41 [])) [.t 30], none, []⟩,
  ⟨some 9, .move (.t 31), none, []⟩]
def r40_10 : List VOper := [
  ⟨some 32, .move (.t 2), none, []⟩,
  ⟨some 33, .call true (.c (.fn 41 [])) [.t 32], none, []⟩,
  ⟨some 10, .move (.t 33), none, []⟩]
def r40_11 : List VOper := [
  ⟨some 34, .move (.t 8), none, []⟩,
  ⟨some 35, .move (.t 9), none, []⟩,
  ⟨some 36, .move (.t 10), none, []⟩,
  ⟨some 37, .call true (.c (.fn 43 [])) [.t 34, .t 35, .t 36], none, []⟩,
  ⟨some 11, .move (.t 37), none, []⟩]
def r40_12 : List VOper := [
  ⟨some 38, .move (.t 11), none, []⟩,
  ⟨some 39, .move (.t 7), none, []⟩,
  ⟨some 40, .eqB true (.t 38) (.t 39), none, []⟩]
def r40_13 : List VOper := [
  ⟨some 6, .move (.c (.d (.bool false))), none, []⟩]
def r40_14 : List VOper := [
  ⟨some 41, .move (.t 8), none, []⟩,
  ⟨some 42, .move (.t 0), none, []⟩,
  ⟨some 43, .call true (.c (.fn 41 [])) [.t 42], none, []⟩,
  ⟨some 44, .call true (.c (.fn 44 [])) [.t 41, .t 43], none, []⟩,
  ⟨some 45, .not (.t 44), none, []⟩]
def r40_15 : List VOper := [
  ⟨some 6, .move (.c (.d (.bool false))), none, []⟩]
def r40_16 : List VOper := [
  ⟨some 46, .move (.t 9), none, []⟩,
  ⟨some 47, .move (.t 1), none, []⟩,
  ⟨some 48, .call true (.c (.fn 41 [])) [.t 47], none, []⟩,
  ⟨some 49, .call true (.c (.fn 44 [])) [.t 46, .t 48], none, []⟩,
  ⟨some 50, .not (.t 49), none, []⟩]
def r40_17 : List VOper := [
  ⟨some 6, .move (.c (.d (.bool false))), none, []⟩]
def r40_18 : List VOper := [
  ⟨some 51, .move (.t 10), none, []⟩,
  ⟨some 52, .move (.t 2), none, []⟩,
  ⟨some 53, .call true (.c (.fn 41 [])) [.t 52], none, []⟩,
  ⟨some 54, .call true (.c (.fn 44 [])) [.t 51, .t 53], none, []⟩,
  ⟨some 55, .not (.t 54), none, []⟩]
def r40_19 : List VOper := [
  ⟨some 6, .move (.c (.d (.bool false))), none, []⟩]
def r40_20 : List VOper := [
  ⟨some 6, .move (.c (.d (.bool true))), none, []⟩]
def v40 : VFn := ⟨3, [.tmp 6], (.seq (.region false 0 [0, 1, 2] r40_0) (.seq (.seq (.region false 0 [0, 1, 2, 14] r40_1) (.cond (.t 14) (.seq (.region false 0 [6] r40_2) .ret) .skip)) (.seq (.seq (.region false 0 [0, 1, 2, 17] r40_3) (.cond (.t 17) (.seq (.region false 0 [6] r40_4) .ret) .skip)) (.seq (.seq (.region false 0 [0, 1, 2, 20] r40_5) (.cond (.t 20) (.seq (.region false 0 [6] r40_6) .ret) .skip)) (.seq (.region false 0 [0, 1, 2, 7] r40_7) (.seq (.region false 0 [0, 1, 2, 7, 8] r40_8) (.seq (.region false 0 [0, 1, 2, 7, 8, 9] r40_9) (.seq (.region false 0 [0, 1, 2, 7, 8, 9, 10] r40_10) (.seq (.region false 0 [0, 1, 2, 7, 8, 9, 10, 11] r40_11) (.seq (.seq (.region false 0 [0, 1, 2, 8, 9, 10, 40] r40_12) (.cond (.t 40) (.seq (.region false 0 [6] r40_13) .ret) .skip)) (.seq (.seq (.region false 0 [1, 2, 9, 10, 45] r40_14) (.cond (.t 45) (.seq (.region false 0 [6] r40_15) .ret) .skip)) (.seq (.seq (.region false 0 [2, 10, 50] r40_16) (.cond (.t 50) (.seq (.region false 0 [6] r40_17) .ret) .skip)) (.seq (.seq (.region false 0 [55] r40_18) (.cond (.t 55) (.seq (.region false 0 [6] r40_19) .ret) .skip)) (.seq (.region false 0 [6] r40_20) .ret))))))))))))))⟩
/-! loop.example/g00461/laws.toIntS -/
def r41_0 : List VOper := [
  ⟨some 2, .move (.c (.d (.sl .nil []))), none, []⟩]
def r41_1 : List VOper := [
  ⟨some 5, .move (.t 0), none, []⟩,
  ⟨some 6, .len false (.t 5), none, []⟩,
  ⟨some 7, .makeSlice 0 1 8 (.int .i64 0) (.t 6), none, []⟩,
  ⟨some 3, .move (.t 7), none, []⟩]
def r41_2 : List VOper := [
  ⟨some 4, .move (.c (.d (.int .i64 0))), none, []⟩]
def r41_3 : List VOper := [
  ⟨some 8, .move (.t 4), none, []⟩,
  ⟨some 9, .move (.t 0), none, []⟩,
  ⟨some 10, .len false (.t 9), none, []⟩,
  ⟨some 11, .bin .lss (.t 8) (.t 10), none, []⟩]
def r41_5 : List VOper := [
  ⟨some 14, .move (.t 3), none, []⟩,
  ⟨some 15, .move (.t 4), none, []⟩,
  ⟨some 16, .move (.t 0), none, []⟩,
  ⟨some 17, .move (.t 4), none, []⟩,
  ⟨some 18, .indexAddr 1 none (.t 16) (.t 17), none, []⟩,
  ⟨some 19, .load false 1 (.t 18), none, []⟩,
  ⟨some 20, .indexAddr 1 none (.t 14) (.t 15), none, []⟩,
  ⟨none, .store false 1 (.t 20) (.t 19), none, []⟩]
def r41_4 : List VOper := [
  ⟨some 12, .move (.t 4), none, []⟩,
  ⟨some 13, .bin .add (.t 12) (.c (.d (.int .i64 1))), none, []⟩,
  ⟨some 4, .move (.t 13), none, []⟩]
def b41_0 : VCode := (.seq (.seq (.region false 0 [0, 3, 4, 11] r41_3) (.cond (.t 11) .skip (.exit 0))) (.seq (.block 1 (.region false 0 [0, 3, 4] r41_5)) (.region false 0 [0, 3, 4] r41_4)))
def r41_6 : List VOper := [
  ⟨some 21, .move (.t 3), none, []⟩,
  ⟨some 2, .move (.t 21), none, []⟩]
def v41 : VFn := ⟨1, [.tmp 2], (.seq (.region false 0 [0] r41_0) (.seq (.region false 1 [0, 3] r41_1) (.seq (.seq (.region false 0 [0, 3, 4] r41_2) (.block 0 (.loop [0, 3, 4] b41_0))) (.seq (.region false 0 [2] r41_6) .ret))))⟩
/-! loop.example/g00461/spec.Solves -/
def r42_0 : List VOper := [
  ⟨some 6, .move (.c (.d (.bool false))), none, []⟩]
def r42_1 : List VOper := [
  ⟨some 8, .move (.t 2), none, []⟩,
  ⟨some 9, .len false (.t 8), none, []⟩,
  ⟨some 10, .move (.t 0), none, []⟩,
  ⟨some 11, .len false (.t 10), none, []⟩,
  ⟨some 12, .move (.t 1), none, []⟩,
  ⟨some 13, .len false (.t 12), none, []⟩,
  ⟨some 14, .bin .add (.t 11) (.t 13), none, []⟩,
  ⟨some 15, .bin .neq (.t 9) (.t 14), none, []⟩]
def r42_2 : List VOper := [
  ⟨some 6, .move (.c (.d (.bool false))), none, []⟩]
def r42_3 : List VOper := [
  ⟨some 7, .move (.c (.d (.int .i64 0))), none, []⟩]
def r42_4 : List VOper := [
  ⟨some 16, .move (.t 7), none, []⟩,
  ⟨some 17, .move (.t 2), none, []⟩,
  ⟨some 18, .len false (.t 17), none, []⟩,
  ⟨some 19, .bin .lss (.t 16) (.t 18), none, []⟩]
def r42_6 : List VOper := [
  ⟨some 22, .move (.t 2), none, []⟩,
  ⟨some 23, .move (.t 7), none, []⟩,
  ⟨some 24, .indexAddr 1 none (.t 22) (.t 23), none, []⟩,
  ⟨some 25, .load false 1 (.t 24), none, []⟩,
  ⟨some 26, .bin .lss (.t 25) (.c (.d (.int .i64 0))), none, []⟩]
def r42_7 : List VOper := [
  ⟨some 6, .move (.c (.d (.bool false))), none, []⟩]
def r42_5 : List VOper := [
  ⟨some 20, .move (.t 7), none, []⟩,
  ⟨some 21, .bin .add (.t 20) (.c (.d (.int .i64 1))), none, []⟩,
  ⟨some 7, .move (.t 21), none, []⟩]
def b42_0 : VCode := (.seq (.seq (.region false 0 [0, 1, 2, 7, 19] r42_4) (.cond (.t 19) .skip (.exit 0))) (.seq (.block 1 (.seq (.region false 0 [0, 1, 2, 7, 26] r42_6) (.cond (.t 26) (.seq (.region false 0 [6] r42_7) .ret) .skip))) (.region false 0 [0, 1, 2, 7] r42_5)))
def r42_8 : List VOper := [
  ⟨some 27, .move (.t 0), none, []⟩,
  ⟨some 28, .move (.t 2), none, []⟩,
  ⟨some 29, .call true (.c (.fn 48 [])) [.t 27, .t 28, .c (.d (.int .i64 0))], none, []⟩,
  ⟨some 30, .move (.t 1), none, []⟩,
  ⟨some 31, .move (.t 2), none, []⟩,
  ⟨some 32, .move (.t 0), none, []⟩,
  ⟨some 33, .len false (.t 32), none, []⟩,
  ⟨some 34, .call true (.c (.fn 48 [])) [.t 30, .t 31, .t 33], none, []⟩,
  ⟨some 35, .bin .eql (.t 29) (.t 34), none, []⟩,
  ⟨some 6, .move (.t 35), none, []⟩]
def v42 : VFn := ⟨3, [.tmp 6], (.seq (.region false 0 [0, 1, 2] r42_0) (.seq (.seq (.region false 0 [0, 1, 2, 15] r42_1) (.cond (.t 15) (.seq (.region false 0 [6] r42_2) .ret) .skip)) (.seq (.seq (.region false 0 [0, 1, 2, 7] r42_3) (.block 0 (.loop [0, 1, 2, 7] b42_0))) (.seq (.region false 0 [6] r42_8) .ret))))⟩
/-! loop.example/g00461/impl.Solves -/
def r43_0 : List VOper := [
  ⟨some 6, .move (.c (.d (.bool false))), none, []⟩]
def r43_1 : List VOper := [
  ⟨some 12, .move (.t 2), none, []⟩,
  ⟨some 13, .len false (.t 12), none, []⟩,
  ⟨some 14, .move (.t 0), none, []⟩,
  ⟨some 15, .len false (.t 14), none, []⟩,
  ⟨some 16, .move (.t 1), none, []⟩,
  ⟨some 17, .len false (.t 16), none, []⟩,
  ⟨some 18, .bin .add (.t 15) (.t 17), none, []⟩,
  ⟨some 19, .bin .neq (.t 13) (.t 18), none, []⟩,
  ⟨some 20, .move (.t 19), none, []⟩,
  ⟨some 21, .move (.t 2), some (20, false), []⟩,
  ⟨some 22, .call false (.c (.fn 45 [])) [.t 21, .c (.fn 46 [])], some (20, false), []⟩,
  ⟨some 23, .pick (.t 20) (.c (.d (.bool true))) (.t 22), none, []⟩]
def r43_2 : List VOper := [
  ⟨some 6, .move (.c (.d (.bool false))), none, []⟩]
def r43_3 : List VOper := [
  ⟨some 7, .move (.c (.d (.int .i64 0))), none, []⟩]
def r43_4 : List VOper := [
  ⟨some 24, .move (.t 0), none, []⟩,
  ⟨some 25, .len false (.t 24), none, []⟩,
  ⟨some 26, .move (.c (.d (.int .i64 0))), none, []⟩]
def r43_5 : List VOper := [
  ⟨some 27, .bin .lss (.t 26) (.t 25), none, []⟩]
def r43_6 : List VOper := [
  ⟨some 28, .move (.t 26), none, []⟩,
  ⟨some 29, .indexAddr 1 none (.t 24) (.t 26), none, []⟩,
  ⟨some 30, .load false 1 (.t 29), none, []⟩,
  ⟨some 8, .move (.t 28), none, []⟩,
  ⟨some 9, .move (.t 30), none, []⟩]
def r43_7 : List VOper := [
  ⟨some 31, .move (.t 7), none, []⟩,
  ⟨some 32, .move (.t 9), none, []⟩,
  ⟨some 33, .move (.t 2), none, []⟩,
  ⟨some 34, .move (.t 8), none, []⟩,
  ⟨some 35, .indexAddr 1 none (.t 33) (.t 34), none, []⟩,
  ⟨some 36, .load false 1 (.t 35), none, []⟩,
  ⟨some 37, .bin .mul (.t 32) (.t 36), none, []⟩,
  ⟨some 38, .bin .add (.t 31) (.t 37), none, []⟩,
  ⟨some 7, .move (.t 38), none, []⟩]
def r43_8 : List VOper := [
  ⟨some 39, .bin .add (.t 26) (.c (.d (.int .i64 1))), none, []⟩,
  ⟨some 26, .move (.t 39), none, []⟩]
def b43_0 : VCode := (.seq (.region false 0 [0, 1, 2, 7, 24, 25, 26, 27] r43_5) (.seq (.cond (.t 27) .skip (.exit 0)) (.seq (.block 1 (.seq (.region false 0 [0, 1, 2, 7, 8, 9, 24, 25, 26] r43_6) (.region false 0 [0, 1, 2, 7, 24, 25, 26] r43_7))) (.region false 0 [0, 1, 2, 7, 24, 25, 26] r43_8))))
def r43_9 : List VOper := [
  ⟨some 40, .move (.t 1), none, []⟩,
  ⟨some 41, .len false (.t 40), none, []⟩,
  ⟨some 42, .move (.c (.d (.int .i64 0))), none, []⟩]
def r43_10 : List VOper := [
  ⟨some 43, .bin .lss (.t 42) (.t 41), none, []⟩]
def r43_11 : List VOper := [
  ⟨some 44, .move (.t 42), none, []⟩,
  ⟨some 45, .indexAddr 1 none (.t 40) (.t 42), none, []⟩,
  ⟨some 46, .load false 1 (.t 45), none, []⟩,
  ⟨some 10, .move (.t 44), none, []⟩,
  ⟨some 11, .move (.t 46), none, []⟩]
def r43_12 : List VOper := [
  ⟨some 47, .move (.t 7), none, []⟩,
  ⟨some 48, .move (.t 11), none, []⟩,
  ⟨some 49, .move (.t 2), none, []⟩,
  ⟨some 50, .move (.t 0), none, []⟩,
  ⟨some 51, .len false (.t 50), none, []⟩,
  ⟨some 52, .move (.t 10), none, []⟩,
  ⟨some 53, .bin .add (.t 51) (.t 52), none, []⟩,
  ⟨some 54, .indexAddr 1 none (.t 49) (.t 53), none, []⟩,
  ⟨some 55, .load false 1 (.t 54), none, []⟩,
  ⟨some 56, .bin .mul (.t 48) (.t 55), none, []⟩,
  ⟨some 57, .bin .sub (.t 47) (.t 56), none, []⟩,
  ⟨some 7, .move (.t 57), none, []⟩]
def r43_13 : List VOper := [
  ⟨some 58, .bin .add (.t 42) (.c (.d (.int .i64 1))), none, []⟩,
  ⟨some 42, .move (.t 58), none, []⟩]
def b43_1 : VCode := (.seq (.region false 0 [0, 2, 7, 40, 41, 42, 43] r43_10) (.seq (.cond (.t 43) .skip (.exit 2)) (.seq (.block 3 (.seq (.region false 0 [0, 2, 7, 10, 11, 40, 41, 42] r43_11) (.region false 0 [0, 2, 7, 40, 41, 42] r43_12))) (.region false 0 [0, 2, 7, 40, 41, 42] r43_13))))
def r43_14 : List VOper := [
  ⟨some 59, .move (.t 7), none, []⟩,
  ⟨some 60, .bin .eql (.t 59) (.c (.d (.int .i64 0))), none, []⟩,
  ⟨some 6, .move (.t 60), none, []⟩]
def v43 : VFn := ⟨3, [.tmp 6], (.seq (.region false 0 [0, 1, 2] r43_0) (.seq (.seq (.region false 0 [0, 1, 2, 23] r43_1) (.cond (.t 23) (.seq (.region false 0 [6] r43_2) .ret) .skip)) (.seq (.region false 0 [0, 1, 2, 7] r43_3) (.seq (.seq (.region false 0 [0, 1, 2, 7, 24, 25, 26] r43_4) (.block 0 (.loop [0, 1, 2, 7, 24, 25, 26] b43_0))) (.seq (.seq (.region false 0 [0, 2, 7, 40, 41, 42] r43_9) (.block 2 (.loop [0, 2, 7, 40, 41, 42] b43_1))) (.seq (.region false 0 [6] r43_14) .ret))))))⟩
/-! loop.example/g00461/laws.eqIntS -/
def r44_0 : List VOper := [
  ⟨some 4, .move (.c (.d (.bool false))), none, []⟩]
def r44_1 : List VOper := [
  ⟨some 6, .move (.t 0), none, []⟩,
  ⟨some 7, .len false (.t 6), none, []⟩,
  ⟨some 8, .move (.t 1), none, []⟩,
  ⟨some 9, .len false (.t 8), none, []⟩,
  ⟨some 10, .bin .neq (.t 7) (.t 9), none, []⟩]
def r44_2 : List VOper := [
  ⟨some 4, .move (.c (.d (.bool false))), none, []⟩]
def r44_3 : List VOper := [
  ⟨some 5, .move (.c (.d (.int .i64 0))), none, []⟩]
def r44_4 : List VOper := [
  ⟨some 11, .move (.t 5), none, []⟩,
  ⟨some 12, .move (.t 0), none, []⟩,
  ⟨some 13, .len false (.t 12), none, []⟩,
  ⟨some 14, .bin .lss (.t 11) (.t 13), none, []⟩]
def r44_6 : List VOper := [
  ⟨some 17, .move (.t 0), none, []⟩,
  ⟨some 18, .move (.t 5), none, []⟩,
  ⟨some 19, .indexAddr 1 none (.t 17) (.t 18), none, [0, 1]⟩,
  ⟨some 20, .load false 1 (.t 19), none, [2]⟩,
  ⟨some 21, .move (.t 1), none, []⟩,
  ⟨some 22, .move (.t 5), none, []⟩,
  ⟨some 23, .indexAddr 1 none (.t 21) (.t 22), none, [4, 5]⟩,
  ⟨some 24, .load false 1 (.t 23), none, [6]⟩,
  ⟨some 25, .bin .neq (.t 20) (.t 24), none, [3, 7]⟩]
def r44_7 : List VOper := [
  ⟨some 4, .move (.c (.d (.bool false))), none, []⟩]
def r44_5 : List VOper := [
  ⟨some 15, .move (.t 5), none, []⟩,
  ⟨some 16, .bin .add (.t 15) (.c (.d (.int .i64 1))), none, []⟩,
  ⟨some 5, .move (.t 16), none, []⟩]
def b44_0 : VCode := (.seq (.seq (.region false 0 [0, 1, 5, 14] r44_4) (.cond (.t 14) .skip (.exit 0))) (.seq (.block 1 (.seq (.region true 0 [0, 1, 5, 25] r44_6) (.cond (.t 25) (.seq (.region false 0 [4] r44_7) .ret) .skip))) (.region false 0 [0, 1, 5] r44_5)))
def r44_8 : List VOper := [
  ⟨some 4, .move (.c (.d (.bool true))), none, []⟩]
def v44 : VFn := ⟨2, [.tmp 4], (.seq (.region false 0 [0, 1] r44_0) (.seq (.seq (.region false 0 [0, 1, 10] r44_1) (.cond (.t 10) (.seq (.region false 0 [4] r44_2) .ret) .skip)) (.seq (.seq (.region false 0 [0, 1, 5] r44_3) (.block 0 (.loop [0, 1, 5] b44_0))) (.seq (.region false 0 [4] r44_8) .ret))))⟩
/-! slices.ContainsFunc[[]int,int] -/
def r45_0 : List VOper := [
  ⟨some 4, .move (.c (.d (.bool false))), none, []⟩]
def r45_1 : List VOper := [
  ⟨some 5, .move (.t 0), none, []⟩,
  ⟨some 6, .move (.t 1), none, []⟩,
  ⟨some 7, .call false (.c (.fn 47 [])) [.t 5, .t 6], none, []⟩,
  ⟨some 8, .bin .geq (.t 7) (.c (.d (.int .i64 0))), none, []⟩,
  ⟨some 4, .move (.t 8), none, []⟩]
def v45 : VFn := ⟨2, [.tmp 4], (.seq (.region false 0 [0, 1] r45_0) (.seq (.region false 0 [4] r45_1) .ret))⟩
/-! loop.example/g00461/impl.Solves$1 -/
def r46_0 : List VOper := [
  ⟨some 2, .move (.c (.d (.bool false))), none, []⟩]
def r46_1 : List VOper := [
  ⟨some 3, .move (.t 0), none, []⟩,
  ⟨some 4, .bin .lss (.t 3) (.c (.d (.int .i64 0))), none, []⟩,
  ⟨some 2, .move (.t 4), none, []⟩]
def v46 : VFn := ⟨1, [.tmp 2], (.seq (.region false 0 [0] r46_0) (.seq (.region false 0 [2] r46_1) .ret))⟩
/-! slices.IndexFunc[[]int,int] -/
def r47_0 : List VOper := [
  ⟨some 4, .move (.c (.d (.int .i64 0))), none, []⟩]
def r47_1 : List VOper := [
  ⟨some 6, .move (.t 0), none, []⟩,
  ⟨some 7, .len false (.t 6), none, []⟩,
  ⟨some 8, .move (.c (.d (.int .i64 0))), none, []⟩]
def r47_2 : List VOper := [
  ⟨some 9, .bin .lss (.t 8) (.t 7), none, []⟩]
def r47_3 : List VOper := [
  ⟨some 10, .move (.t 8), none, []⟩,
  ⟨some 5, .move (.t 10), none, []⟩]
def r47_4 : List VOper := [
  ⟨some 11, .move (.t 1), none, []⟩,
  ⟨some 12, .move (.t 0), none, []⟩,
  ⟨some 13, .move (.t 5), none, []⟩,
  ⟨some 14, .indexAddr 1 none (.t 12) (.t 13), none, []⟩,
  ⟨some 15, .load false 1 (.t 14), none, []⟩,
  ⟨some 16, .call false (.t 11) [.t 15], none, []⟩]
def r47_5 : List VOper := [
  ⟨some 17, .move (.t 5), none, []⟩,
  ⟨some 4, .move (.t 17), none, []⟩]
def r47_6 : List VOper := [
  ⟨some 18, .bin .add (.t 8) (.c (.d (.int .i64 1))), none, []⟩,
  ⟨some 8, .move (.t 18), none, []⟩]
def b47_0 : VCode := (.seq (.region false 0 [0, 1, 7, 8, 9] r47_2) (.seq (.cond (.t 9) .skip (.exit 0)) (.seq (.block 1 (.seq (.region false 0 [0, 1, 5, 7, 8] r47_3) (.seq (.region false 0 [0, 1, 5, 7, 8, 16] r47_4) (.cond (.t 16) (.seq (.region false 0 [4] r47_5) .ret) .skip)))) (.region false 0 [0, 1, 7, 8] r47_6))))
def r47_7 : List VOper := [
  ⟨some 4, .move (.c (.d (.int .i64 (-1)))), none, []⟩]
def v47 : VFn := ⟨2, [.tmp 4], (.seq (.region false 0 [0, 1] r47_0) (.seq (.seq (.region false 0 [0, 1, 7, 8] r47_1) (.block 0 (.loop [0, 1, 7, 8] b47_0))) (.seq (.region false 0 [4] r47_7) .ret)))⟩
/-! loop.example/g00461/spec.l7Total -/
def r48_0 : List VOper := [
  ⟨some 6, .move (.c (.d (.int .i64 0))), none, []⟩]
def r48_1 : List VOper := [
  ⟨some 7, .move (.c (.d (.int .i64 0))), none, []⟩]
def r48_2 : List VOper := [
  ⟨some 8, .move (.c (.d (.int .i64 0))), none, []⟩]
def r48_3 : List VOper := [
  ⟨some 9, .move (.t 8), none, []⟩,
  ⟨some 10, .move (.t 0), none, []⟩,
  ⟨some 11, .len false (.t 10), none, []⟩,
  ⟨some 12, .bin .lss (.t 9) (.t 11), none, []⟩]
def r48_5 : List VOper := [
  ⟨some 15, .move (.t 7), none, []⟩,
  ⟨some 16, .move (.t 0), none, []⟩,
  ⟨some 17, .move (.t 8), none, []⟩,
  ⟨some 18, .indexAddr 1 none (.t 16) (.t 17), none, [1, 2]⟩,
  ⟨some 19, .load false 1 (.t 18), none, [3]⟩,
  ⟨some 20, .move (.t 1), none, []⟩,
  ⟨some 21, .move (.t 2), none, []⟩,
  ⟨some 22, .move (.t 8), none, []⟩,
  ⟨some 23, .bin .add (.t 21) (.t 22), none, [6, 7]⟩,
  ⟨some 24, .indexAddr 1 none (.t 20) (.t 23), none, [5, 8]⟩,
  ⟨some 25, .load false 1 (.t 24), none, [9]⟩,
  ⟨some 26, .bin .mul (.t 19) (.t 25), none, [4, 10]⟩,
  ⟨some 27, .bin .add (.t 15) (.t 26), none, [0, 11]⟩,
  ⟨some 7, .move (.t 27), none, [0, 1, 2, 3, 4, 5, 6, 7, 8, 9, 10, 11, 12]⟩]
def r48_4 : List VOper := [
  ⟨some 13, .move (.t 8), none, []⟩,
  ⟨some 14, .bin .add (.t 13) (.c (.d (.int .i64 1))), none, []⟩,
  ⟨some 8, .move (.t 14), none, []⟩]
def b48_0 : VCode := (.seq (.seq (.region false 0 [0, 1, 2, 7, 8, 12] r48_3) (.cond (.t 12) .skip (.exit 0))) (.seq (.block 1 (.region true 0 [0, 1, 2, 7, 8] r48_5)) (.region false 0 [0, 1, 2, 7, 8] r48_4)))
def r48_6 : List VOper := [
  ⟨some 28, .move (.t 7), none, []⟩,
  ⟨some 6, .move (.t 28), none, []⟩]
def v48 : VFn := ⟨3, [.tmp 6], (.seq (.region false 0 [0, 1, 2] r48_0) (.seq (.region false 0 [0, 1, 2, 7] r48_1) (.seq (.seq (.region false 0 [0, 1, 2, 7, 8] r48_2) (.block 0 (.loop [0, 1, 2, 7, 8] b48_0))) (.seq (.region false 0 [6] r48_6) .ret))))⟩
/-! loop.example/g00461/laws.FnExactLeast -/
def r49_0 : List VOper := [
  ⟨some 4, .move (.c (.d (.bool false))), none, []⟩]
def r49_1 : List VOper := [
  ⟨some 9, .move (.t 0), none, []⟩,
  ⟨some 10, .len false (.t 9), none, []⟩,
  ⟨some 11, .bin .gtr (.t 10) (.c (.d (.int .i64 1048576))), none, []⟩]
def r49_2 : List VOper := [
  ⟨some 4, .move (.c (.d (.bool true))), none, []⟩]
def r49_3 : List VOper := [
  ⟨some 12, .move (.t 1), none, []⟩,
  ⟨some 13, .len false (.t 12), none, []⟩,
  ⟨some 14, .bin .gtr (.t 13) (.c (.d (.int .i64 1048576))), none, []⟩]
def r49_4 : List VOper := [
  ⟨some 4, .move (.c (.d (.bool true))), none, []⟩]
def r49_5 : List VOper := [
  ⟨some 15, .move (.t 0), none, []⟩,
  ⟨some 16, .call true (.c (.fn 41 [])) [.t 15], none, []⟩,
  ⟨some 17, .move (.t 1), none, []⟩,
  ⟨some 18, .call true (.c (.fn 41 [])) [.t 17], none, []⟩,
  ⟨some 19, .call true (.c (.fn 50 [])) [.t 16, .t 18], none, []⟩,
  ⟨some 5, .move (.t 19), none, []⟩]
def r49_6 : List VOper := [
  ⟨some 20, .move (.t 0), none, []⟩,
  ⟨some 21, .call true (.c (.fn 41 [])) [.t 20], none, []⟩,
  ⟨some 6, .move (.t 21), none, []⟩]
def r49_7 : List VOper := [
  ⟨some 22, .move (.t 1), none, []⟩,
  ⟨some 23, .call true (.c (.fn 41 [])) [.t 22], none, []⟩,
  ⟨some 7, .move (.t 23), none, []⟩]
def r49_8 : List VOper := [
  ⟨some 24, .move (.t 6), none, []⟩,
  ⟨some 25, .move (.t 7), none, []⟩,
  ⟨some 26, .call true (.c (.fn 51 [])) [.t 24, .t 25], none, []⟩,
  ⟨some 8, .move (.t 26), none, []⟩]
def r49_9 : List VOper := [
  ⟨some 27, .move (.t 8), none, []⟩,
  ⟨some 28, .move (.t 5), none, []⟩,
  ⟨some 29, .eqB true (.t 27) (.t 28), none, []⟩]
def r49_10 : List VOper := [
  ⟨some 4, .move (.c (.d (.bool false))), none, []⟩]
def r49_11 : List VOper := [
  ⟨some 30, .move (.t 6), none, []⟩,
  ⟨some 31, .move (.t 0), none, []⟩,
  ⟨some 32, .call true (.c (.fn 41 [])) [.t 31], none, []⟩,
  ⟨some 33, .call true (.c (.fn 44 [])) [.t 30, .t 32], none, []⟩,
  ⟨some 34, .not (.t 33), none, []⟩]
def r49_12 : List VOper := [
  ⟨some 4, .move (.c (.d (.bool false))), none, []⟩]
def r49_13 : List VOper := [
  ⟨some 35, .move (.t 7), none, []⟩,
  ⟨some 36, .move (.t 1), none, []⟩,
  ⟨some 37, .call true (.c (.fn 41 [])) [.t 36], none, []⟩,
  ⟨some 38, .call true (.c (.fn 44 [])) [.t 35, .t 37], none, []⟩,
  ⟨some 39, .not (.t 38), none, []⟩]
def r49_14 : List VOper := [
  ⟨some 4, .move (.c (.d (.bool false))), none, []⟩]
def r49_15 : List VOper := [
  ⟨some 4, .move (.c (.d (.bool true))), none, []⟩]
def v49 : VFn := ⟨2, [.tmp 4], (.seq (.region false 0 [0, 1] r49_0) (.seq (.seq (.region false 0 [0, 1, 11] r49_1) (.cond (.t 11) (.seq (.region false 0 [4] r49_2) .ret) .skip)) (.seq (.seq (.region false 0 [0, 1, 14] r49_3) (.cond (.t 14) (.seq (.region false 0 [4] r49_4) .ret) .skip)) (.seq (.region false 0 [0, 1, 5] r49_5) (.seq (.region false 0 [0, 1, 5, 6] r49_6) (.seq (.region false 0 [0, 1, 5, 6, 7] r49_7) (.seq (.region false 0 [0, 1, 5, 6, 7, 8] r49_8) (.seq (.seq (.region false 0 [0, 1, 6, 7, 29] r49_9) (.cond (.t 29) (.seq (.region false 0 [4] r49_10) .ret) .skip)) (.seq (.seq (.region false 0 [1, 7, 34] r49_11) (.cond (.t 34) (.seq (.region false 0 [4] r49_12) .ret) .skip)) (.seq (.seq (.region false 0 [39] r49_13) (.cond (.t 39) (.seq (.region false 0 [4] r49_14) .ret) .skip)) (.seq (.region false 0 [4] r49_15) .ret)))))))))))⟩
/-! loop.example/g00461/spec.Least -/
def r50_0 : List VOper := [
  ⟨some 4, .move (.c (.d (.bool false))), none, []⟩]
def r50_1 : List VOper := [
  ⟨some 5, .move (.c (.d (.bool false))), none, []⟩]
def r50_2 : List VOper := [
  ⟨some 6, .move (.c (.d (.int .i64 0))), none, []⟩]
def r50_3 : List VOper := [
  ⟨some 7, .move (.t 6), none, []⟩,
  ⟨some 8, .move (.t 0), none, []⟩,
  ⟨some 9, .len false (.t 8), none, []⟩,
  ⟨some 10, .bin .lss (.t 7) (.t 9), none, []⟩,
  ⟨some 11, .move (.t 10), none, []⟩,
  ⟨some 12, .move (.t 6), some (11, true), []⟩,
  ⟨some 13, .move (.t 1), some (11, true), []⟩,
  ⟨some 14, .len false (.t 13), some (11, true), []⟩,
  ⟨some 15, .bin .lss (.t 12) (.t 14), some (11, true), []⟩,
  ⟨some 16, .pick (.t 11) (.t 15) (.c (.d (.bool false))), none, []⟩]
def r50_5 : List VOper := [
  ⟨some 19, .move (.t 0), none, []⟩,
  ⟨some 20, .move (.t 6), none, []⟩,
  ⟨some 21, .indexAddr 1 none (.t 19) (.t 20), none, [0, 1]⟩,
  ⟨some 22, .load false 1 (.t 21), none, [2]⟩,
  ⟨some 23, .move (.t 1), none, []⟩,
  ⟨some 24, .move (.t 6), none, []⟩,
  ⟨some 25, .indexAddr 1 none (.t 23) (.t 24), none, [4, 5]⟩,
  ⟨some 26, .load false 1 (.t 25), none, [6]⟩,
  ⟨some 27, .bin .gtr (.t 22) (.t 26), none, [3, 7]⟩]
def r50_6 : List VOper := [
  ⟨some 4, .move (.c (.d (.bool false))), none, []⟩]
def r50_7 : List VOper := [
  ⟨some 28, .move (.t 5), none, []⟩,
  ⟨some 29, .move (.t 28), none, [0]⟩,
  ⟨some 30, .move (.t 0), some (29, false), [1]⟩,
  ⟨some 31, .move (.t 6), some (29, false), [1]⟩,
  ⟨some 32, .indexAddr 1 none (.t 30) (.t 31), some (29, false), [1, 2, 3]⟩,
  ⟨some 33, .load false 1 (.t 32), some (29, false), [1, 4]⟩,
  ⟨some 34, .move (.t 1), some (29, false), [1]⟩,
  ⟨some 35, .move (.t 6), some (29, false), [1]⟩,
  ⟨some 36, .indexAddr 1 none (.t 34) (.t 35), some (29, false), [1, 6, 7]⟩,
  ⟨some 37, .load false 1 (.t 36), some (29, false), [1, 8]⟩,
  ⟨some 38, .bin .lss (.t 33) (.t 37), some (29, false), [1, 5, 9]⟩,
  ⟨some 39, .pick (.t 29) (.c (.d (.bool true))) (.t 38), none, [1, 10]⟩,
  ⟨some 5, .move (.t 39), none, [0, 1, 2, 3, 4, 5, 6, 7, 8, 9, 10, 11]⟩]
def r50_4 : List VOper := [
  ⟨some 17, .move (.t 6), none, []⟩,
  ⟨some 18, .bin .add (.t 17) (.c (.d (.int .i64 1))), none, []⟩,
  ⟨some 6, .move (.t 18), none, []⟩]
def b50_0 : VCode := (.seq (.seq (.region false 0 [0, 1, 5, 6, 16] r50_3) (.cond (.t 16) .skip (.exit 0))) (.seq (.block 1 (.seq (.seq (.region true 0 [0, 1, 5, 6, 27] r50_5) (.cond (.t 27) (.seq (.region false 0 [4] r50_6) .ret) .skip)) (.region true 0 [0, 1, 5, 6] r50_7))) (.region false 0 [0, 1, 5, 6] r50_4)))
def r50_8 : List VOper := [
  ⟨some 40, .move (.t 5), none, []⟩,
  ⟨some 41, .move (.t 40), none, []⟩,
  ⟨some 42, .move (.t 0), some (41, true), []⟩,
  ⟨some 43, .len false (.t 42), some (41, true), []⟩,
  ⟨some 44, .move (.t 1), some (41, true), []⟩,
  ⟨some 45, .len false (.t 44), some (41, true), []⟩,
  ⟨some 46, .bin .eql (.t 43) (.t 45), some (41, true), []⟩,
  ⟨some 47, .pick (.t 41) (.t 46) (.c (.d (.bool false))), none, []⟩,
  ⟨some 4, .move (.t 47), none, []⟩]
def v50 : VFn := ⟨2, [.tmp 4], (.seq (.region false 0 [0, 1] r50_0) (.seq (.region false 0 [0, 1, 5] r50_1) (.seq (.seq (.region false 0 [0, 1, 5, 6] r50_2) (.block 0 (.loop [0, 1, 5, 6] b50_0))) (.seq (.region false 0 [4] r50_8) .ret))))⟩
/-! loop.example/g00461/impl.Least -/
def r51_0 : List VOper := [
  ⟨some 4, .move (.c (.d (.bool false))), none, []⟩]
def r51_1 : List VOper := [
  ⟨some 7, .move (.t 0), none, []⟩,
  ⟨some 8, .len false (.t 7), none, []⟩,
  ⟨some 9, .move (.t 1), none, []⟩,
  ⟨some 10, .len false (.t 9), none, []⟩,
  ⟨some 11, .bin .neq (.t 8) (.t 10), none, []⟩]
def r51_2 : List VOper := [
  ⟨some 4, .move (.c (.d (.bool false))), none, []⟩]
def r51_3 : List VOper := [
  ⟨some 5, .move (.c (.d (.bool false))), none, []⟩]
def r51_4 : List VOper := [
  ⟨some 12, .move (.t 0), none, []⟩,
  ⟨some 13, .len false (.t 12), none, []⟩,
  ⟨some 14, .move (.c (.d (.int .i64 0))), none, []⟩]
def r51_5 : List VOper := [
  ⟨some 15, .bin .lss (.t 14) (.t 13), none, []⟩]
def r51_6 : List VOper := [
  ⟨some 16, .move (.t 14), none, []⟩,
  ⟨some 6, .move (.t 16), none, []⟩]
def r51_7 : List VOper := [
  ⟨some 17, .move (.t 0), none, []⟩,
  ⟨some 18, .move (.t 6), none, []⟩,
  ⟨some 19, .indexAddr 1 none (.t 17) (.t 18), none, [0, 1]⟩,
  ⟨some 20, .load false 1 (.t 19), none, [2]⟩,
  ⟨some 21, .move (.t 1), none, []⟩,
  ⟨some 22, .move (.t 6), none, []⟩,
  ⟨some 23, .indexAddr 1 none (.t 21) (.t 22), none, [4, 5]⟩,
  ⟨some 24, .load false 1 (.t 23), none, [6]⟩,
  ⟨some 25, .bin .gtr (.t 20) (.t 24), none, [3, 7]⟩]
def r51_8 : List VOper := [
  ⟨some 4, .move (.c (.d (.bool false))), none, []⟩]
def r51_9 : List VOper := [
  ⟨some 26, .move (.t 5), none, []⟩,
  ⟨some 27, .move (.t 26), none, [0]⟩,
  ⟨some 28, .move (.t 0), some (27, false), [1]⟩,
  ⟨some 29, .move (.t 6), some (27, false), [1]⟩,
  ⟨some 30, .indexAddr 1 none (.t 28) (.t 29), some (27, false), [1, 2, 3]⟩,
  ⟨some 31, .load false 1 (.t 30), some (27, false), [1, 4]⟩,
  ⟨some 32, .move (.t 1), some (27, false), [1]⟩,
  ⟨some 33, .move (.t 6), some (27, false), [1]⟩,
  ⟨some 34, .indexAddr 1 none (.t 32) (.t 33), some (27, false), [1, 6, 7]⟩,
  ⟨some 35, .load false 1 (.t 34), some (27, false), [1, 8]⟩,
  ⟨some 36, .bin .lss (.t 31) (.t 35), some (27, false), [1, 5, 9]⟩,
  ⟨some 37, .pick (.t 27) (.c (.d (.bool true))) (.t 36), none, [1, 10]⟩,
  ⟨some 5, .move (.t 37), none, [0, 1, 2, 3, 4, 5, 6, 7, 8, 9, 10, 11]⟩]
def r51_10 : List VOper := [
  ⟨some 38, .bin .add (.t 14) (.c (.d (.int .i64 1))), none, []⟩,
  ⟨some 14, .move (.t 38), none, []⟩]
def b51_0 : VCode := (.seq (.region false 0 [0, 1, 5, 13, 14, 15] r51_5) (.seq (.cond (.t 15) .skip (.exit 0)) (.seq (.block 1 (.seq (.region false 0 [0, 1, 5, 6, 13, 14] r51_6) (.seq (.seq (.region true 0 [0, 1, 5, 6, 13, 14, 25] r51_7) (.cond (.t 25) (.seq (.region false 0 [4] r51_8) .ret) .skip)) (.region true 0 [0, 1, 5, 13, 14] r51_9)))) (.region false 0 [0, 1, 5, 13, 14] r51_10))))
def r51_11 : List VOper := [
  ⟨some 39, .move (.t 5), none, []⟩,
  ⟨some 4, .move (.t 39), none, []⟩]
def v51 : VFn := ⟨2, [.tmp 4], (.seq (.region false 0 [0, 1] r51_0) (.seq (.seq (.region false 0 [0, 1, 11] r51_1) (.cond (.t 11) (.seq (.region false 0 [4] r51_2) .ret) .skip)) (.seq (.region false 0 [0, 1, 5] r51_3) (.seq (.seq (.region false 0 [0, 1, 5, 13, 14] r51_4) (.block 0 (.loop [0, 1, 5, 13, 14] b51_0))) (.seq (.region false 0 [4] r51_11) .ret)))))⟩
/-! loop.example/g00461/laws.FnExactNumIn -/
def r52_0 : List VOper := [
  ⟨some 4, .move (.c (.d (.bool false))), none, []⟩]
def r52_1 : List VOper := [
  ⟨some 8, .move (.t 0), none, []⟩,
  ⟨some 9, .len false (.t 8), none, []⟩,
  ⟨some 10, .bin .gtr (.t 9) (.c (.d (.int .i64 1048576))), none, []⟩]
def r52_2 : List VOper := [
  ⟨some 4, .move (.c (.d (.bool true))), none, []⟩]
def r52_3 : List VOper := [
  ⟨some 11, .move (.t 0), none, []⟩,
  ⟨some 12, .call true (.c (.fn 41 [])) [.t 11], none, []⟩,
  ⟨some 13, .move (.t 1), none, []⟩,
  ⟨some 14, .call true (.c (.fn 53 [])) [.t 12, .t 13], none, []⟩,
  ⟨some 5, .move (.t 14), none, []⟩]
def r52_4 : List VOper := [
  ⟨some 15, .move (.t 0), none, []⟩,
  ⟨some 16, .call true (.c (.fn 41 [])) [.t 15], none, []⟩,
  ⟨some 6, .move (.t 16), none, []⟩]
def r52_5 : List VOper := [
  ⟨some 17, .move (.t 6), none, []⟩,
  ⟨some 18, .move (.t 1), none, []⟩,
  ⟨some 19, .call true (.c (.fn 54 [])) [.t 17, .t 18], none, []⟩,
  ⟨some 7, .move (.t 19), none, []⟩]
def r52_6 : List VOper := [
  ⟨some 20, .move (.t 7), none, []⟩,
  ⟨some 21, .move (.t 5), none, []⟩,
  ⟨some 22, .eqB true (.t 20) (.t 21), none, []⟩]
def r52_7 : List VOper := [
  ⟨some 4, .move (.c (.d (.bool false))), none, []⟩]
def r52_8 : List VOper := [
  ⟨some 23, .move (.t 6), none, []⟩,
  ⟨some 24, .move (.t 0), none, []⟩,
  ⟨some 25, .call true (.c (.fn 41 [])) [.t 24], none, []⟩,
  ⟨some 26, .call true (.c (.fn 44 [])) [.t 23, .t 25], none, []⟩,
  ⟨some 27, .not (.t 26), none, []⟩]
def r52_9 : List VOper := [
  ⟨some 4, .move (.c (.d (.bool false))), none, []⟩]
def r52_10 : List VOper := [
  ⟨some 4, .move (.c (.d (.bool true))), none, []⟩]
def v52 : VFn := ⟨2, [.tmp 4], (.seq (.region false 0 [0, 1] r52_0) (.seq (.seq (.region false 0 [0, 1, 10] r52_1) (.cond (.t 10) (.seq (.region false 0 [4] r52_2) .ret) .skip)) (.seq (.region false 0 [0, 1, 5] r52_3) (.seq (.region false 0 [0, 1, 5, 6] r52_4) (.seq (.region false 0 [0, 5, 6, 7] r52_5) (.seq (.seq (.region false 0 [0, 6, 22] r52_6) (.cond (.t 22) (.seq (.region false 0 [4] r52_7) .ret) .skip)) (.seq (.seq (.region false 0 [27] r52_8) (.cond (.t 27) (.seq (.region false 0 [4] r52_9) .ret) .skip)) (.seq (.region false 0 [4] r52_10) .ret))))))))⟩
/-! loop.example/g00461/spec.NumIn -/
def r53_0 : List VOper := [
  ⟨some 4, .move (.c (.d (.bool false))), none, []⟩]
def r53_1 : List VOper := [
  ⟨some 5, .move (.c (.d (.int .i64 0))), none, []⟩]
def r53_2 : List VOper := [
  ⟨some 6, .move (.t 5), none, []⟩,
  ⟨some 7, .move (.t 0), none, []⟩,
  ⟨some 8, .len false (.t 7), none, []⟩,
  ⟨some 9, .bin .lss (.t 6) (.t 8), none, []⟩]
def r53_4 : List VOper := [
  ⟨some 12, .move (.t 0), none, []⟩,
  ⟨some 13, .move (.t 5), none, []⟩,
  ⟨some 14, .indexAddr 1 none (.t 12) (.t 13), none, []⟩,
  ⟨some 15, .load false 1 (.t 14), none, []⟩,
  ⟨some 16, .move (.t 1), none, []⟩,
  ⟨some 17, .bin .eql (.t 15) (.t 16), none, []⟩]
def r53_5 : List VOper := [
  ⟨some 4, .move (.c (.d (.bool true))), none, []⟩]
def r53_3 : List VOper := [
  ⟨some 10, .move (.t 5), none, []⟩,
  ⟨some 11, .bin .add (.t 10) (.c (.d (.int .i64 1))), none, []⟩,
  ⟨some 5, .move (.t 11), none, []⟩]
def b53_0 : VCode := (.seq (.seq (.region false 0 [0, 1, 5, 9] r53_2) (.cond (.t 9) .skip (.exit 0))) (.seq (.block 1 (.seq (.region false 0 [0, 1, 5, 17] r53_4) (.cond (.t 17) (.seq (.region false 0 [4] r53_5) .ret) .skip))) (.region false 0 [0, 1, 5] r53_3)))
def r53_6 : List VOper := [
  ⟨some 4, .move (.c (.d (.bool false))), none, []⟩]
def v53 : VFn := ⟨2, [.tmp 4], (.seq (.region false 0 [0, 1] r53_0) (.seq (.seq (.region false 0 [0, 1, 5] r53_1) (.block 0 (.loop [0, 1, 5] b53_0))) (.seq (.region false 0 [4] r53_6) .ret)))⟩
/-! loop.example/g00461/impl.NumIn -/
def r54_0 : List VOper := [
  ⟨some 4, .move (.c (.d (.bool false))), none, []⟩]
def r54_1 : List VOper := [
  ⟨some 5, .move (.t 0), none, []⟩,
  ⟨some 6, .move (.t 1), none, []⟩,
  ⟨some 7, .call true (.c (.fn 55 [])) [.t 5, .t 6], none, []⟩,
  ⟨some 4, .move (.t 7), none, []⟩]
def v54 : VFn := ⟨2, [.tmp 4], (.seq (.region false 0 [0, 1] r54_0) (.seq (.region false 0 [4] r54_1) .ret))⟩
/-! slices.Contains[[]int,int] -/
def r55_0 : List VOper := [
  ⟨some 4, .move (.c (.d (.bool false))), none, []⟩]
def r55_1 : List VOper := [
  ⟨some 5, .move (.t 0), none, []⟩,
  ⟨some 6, .move (.t 1), none, []⟩,
  ⟨some 7, .call true (.c (.fn 56 [])) [.t 5, .t 6], none, []⟩,
  ⟨some 8, .bin .geq (.t 7) (.c (.d (.int .i64 0))), none, []⟩,
  ⟨some 4, .move (.t 8), none, []⟩]
def v55 : VFn := ⟨2, [.tmp 4], (.seq (.region false 0 [0, 1] r55_0) (.seq (.region false 0 [4] r55_1) .ret))⟩
/-! slices.Index[[]int,int] -/
def r56_0 : List VOper := [
  ⟨some 4, .move (.c (.d (.int .i64 0))), none, []⟩]
def r56_1 : List VOper := [
  ⟨some 6, .move (.t 0), none, []⟩,
  ⟨some 7, .len false (.t 6), none, []⟩,
  ⟨some 8, .move (.c (.d (.int .i64 0))), none, []⟩]
def r56_2 : List VOper := [
  ⟨some 9, .bin .lss (.t 8) (.t 7), none, []⟩]
def r56_3 : List VOper := [
  ⟨some 10, .move (.t 8), none, []⟩,
  ⟨some 5, .move (.t 10), none, []⟩]
def r56_4 : List VOper := [
  ⟨some 11, .move (.t 1), none, []⟩,
  ⟨some 12, .move (.t 0), none, []⟩,
  ⟨some 13, .move (.t 5), none, []⟩,
  ⟨some 14, .indexAddr 1 none (.t 12) (.t 13), none, []⟩,
  ⟨some 15, .load false 1 (.t 14), none, []⟩,
  ⟨some 16, .bin .eql (.t 11) (.t 15), none, []⟩]
def r56_5 : List VOper := [
  ⟨some 17, .move (.t 5), none, []⟩,
  ⟨some 4, .move (.t 17), none, []⟩]
def r56_6 : List VOper := [
  ⟨some 18, .bin .add (.t 8) (.c (.d (.int .i64 1))), none, []⟩,
  ⟨some 8, .move (.t 18), none, []⟩]
def b56_0 : VCode := (.seq (.region false 0 [0, 1, 7, 8, 9] r56_2) (.seq (.cond (.t 9) .skip (.exit 0)) (.seq (.block 1 (.seq (.region false 0 [0, 1, 5, 7, 8] r56_3) (.seq (.region false 0 [0, 1, 5, 7, 8, 16] r56_4) (.cond (.t 16) (.seq (.region false 0 [4] r56_5) .ret) .skip)))) (.region false 0 [0, 1, 7, 8] r56_6))))
def r56_7 : List VOper := [
  ⟨some 4, .move (.c (.d (.int .i64 (-1)))), none, []⟩]
def v56 : VFn := ⟨2, [.tmp 4], (.seq (.region false 0 [0, 1] r56_0) (.seq (.seq (.region false 0 [0, 1, 7, 8] r56_1) (.block 0 (.loop [0, 1, 7, 8] b56_0))) (.seq (.region false 0 [4] r56_7) .ret)))⟩
/-! loop.example/g00461/laws.FnExactDigits -/
def r57_0 : List VOper := [
  ⟨some 2, .move (.c (.d (.bool false))), none, []⟩]
def r57_1 : List VOper := [
  ⟨some 5, .move (.t 0), none, []⟩,
  ⟨some 6, .call true (.c (.fn 39 [])) [.t 5], none, []⟩,
  ⟨some 3, .move (.t 6), none, []⟩]
def r57_2 : List VOper := [
  ⟨some 7, .move (.t 0), none, []⟩,
  ⟨some 8, .call true (.c (.fn 38 [])) [.t 7], none, []⟩,
  ⟨some 4, .move (.t 8), none, []⟩]
def r57_3 : List VOper := [
  ⟨some 9, .move (.t 4), none, []⟩,
  ⟨some 10, .move (.t 3), none, []⟩,
  ⟨some 11, .bin .neq (.t 9) (.t 10), none, []⟩]
def r57_4 : List VOper := [
  ⟨some 2, .move (.c (.d (.bool false))), none, []⟩]
def r57_5 : List VOper := [
  ⟨some 2, .move (.c (.d (.bool true))), none, []⟩]
def v57 : VFn := ⟨1, [.tmp 2], (.seq (.region false 0 [0] r57_0) (.seq (.region false 0 [0, 3] r57_1) (.seq (.region false 0 [3, 4] r57_2) (.seq (.seq (.region false 0 [11] r57_3) (.cond (.t 11) (.seq (.region false 0 [2] r57_4) .ret) .skip)) (.seq (.region false 0 [2] r57_5) .ret)))))⟩
/-! loop.example/g00461/laws.FnExactNameOk -/
def r58_0 : List VOper := [
  ⟨some 2, .move (.c (.d (.bool false))), none, []⟩]
def r58_1 : List VOper := [
  ⟨some 5, .move (.t 0), none, []⟩,
  ⟨some 6, .len true (.t 5), none, []⟩,
  ⟨some 7, .bin .gtr (.t 6) (.c (.d (.int .i64 1048576))), none, []⟩]
def r58_2 : List VOper := [
  ⟨some 2, .move (.c (.d (.bool true))), none, []⟩]
def r58_3 : List VOper := [
  ⟨some 8, .move (.t 0), none, []⟩,
  ⟨some 9, .call true (.c (.fn 59 [])) [.t 8], none, []⟩,
  ⟨some 3, .move (.t 9), none, []⟩]
def r58_4 : List VOper := [
  ⟨some 10, .move (.t 0), none, []⟩,
  ⟨some 11, .call true (.c (.fn 60 [])) [.t 10], none, []⟩,
  ⟨some 4, .move (.t 11), none, []⟩]
def r58_5 : List VOper := [
  ⟨some 12, .move (.t 4), none, []⟩,
  ⟨some 13, .move (.t 3), none, []⟩,
  ⟨some 14, .eqB true (.t 12) (.t 13), none, []⟩]
def r58_6 : List VOper := [
  ⟨some 2, .move (.c (.d (.bool false))), none, []⟩]
def r58_7 : List VOper := [
  ⟨some 2, .move (.c (.d (.bool true))), none, []⟩]
def v58 : VFn := ⟨1, [.tmp 2], (.seq (.region false 0 [0] r58_0) (.seq (.seq (.region false 0 [0, 7] r58_1) (.cond (.t 7) (.seq (.region false 0 [2] r58_2) .ret) .skip)) (.seq (.region false 0 [0, 3] r58_3) (.seq (.region false 0 [3, 4] r58_4) (.seq (.seq (.region false 0 [14] r58_5) (.cond (.t 14) (.seq (.region false 0 [2] r58_6) .ret) .skip)) (.seq (.region false 0 [2] r58_7) .ret))))))⟩
/-! loop.example/g00461/spec.NameOk -/
def r59_0 : List VOper := [
  ⟨some 2, .move (.c (.d (.bool false))), none, []⟩]
def r59_1 : List VOper := [
  ⟨some 3, .move (.c (.d (.int .i64 0))), none, []⟩]
def r59_2 : List VOper := [
  ⟨some 4, .move (.t 3), none, []⟩,
  ⟨some 5, .move (.t 0), none, []⟩,
  ⟨some 6, .len true (.t 5), none, []⟩,
  ⟨some 7, .bin .lss (.t 4) (.t 6), none, []⟩]
def r59_4 : List VOper := [
  ⟨some 10, .move (.t 0), none, []⟩,
  ⟨some 11, .move (.t 3), none, []⟩,
  ⟨some 12, .index (.t 10) (.t 11), none, []⟩,
  ⟨some 13, .bin .geq (.t 12) (.c (.d (.int .u8 97))), none, []⟩,
  ⟨some 14, .move (.t 13), none, []⟩,
  ⟨some 15, .move (.t 0), some (14, true), []⟩,
  ⟨some 16, .move (.t 3), some (14, true), []⟩,
  ⟨some 17, .index (.t 15) (.t 16), some (14, true), []⟩,
  ⟨some 18, .bin .leq (.t 17) (.c (.d (.int .u8 122))), some (14, true), []⟩,
  ⟨some 19, .pick (.t 14) (.t 18) (.c (.d (.bool false))), none, []⟩,
  ⟨some 20, .move (.t 19), none, []⟩,
  ⟨some 21, .move (.t 3), some (20, false), []⟩,
  ⟨some 22, .bin .gtr (.t 21) (.c (.d (.int .i64 0))), some (20, false), []⟩,
  ⟨some 23, .move (.t 22), some (20, false), []⟩,
  ⟨some 24, .move (.t 0), some (23, true), []⟩,
  ⟨some 25, .move (.t 3), some (23, true), []⟩,
  ⟨some 26, .index (.t 24) (.t 25), some (23, true), []⟩,
  ⟨some 27, .bin .geq (.t 26) (.c (.d (.int .u8 48))), some (23, true), []⟩,
  ⟨some 28, .pick (.t 23) (.t 27) (.c (.d (.bool false))), some (20, false), []⟩,
  ⟨some 29, .move (.t 28), some (20, false), []⟩,
  ⟨some 30, .move (.t 0), some (29, true), []⟩,
  ⟨some 31, .move (.t 3), some (29, true), []⟩,
  ⟨some 32, .index (.t 30) (.t 31), some (29, true), []⟩,
  ⟨some 33, .bin .leq (.t 32) (.c (.d (.int .u8 57))), some (29, true), []⟩,
  ⟨some 34, .pick (.t 29) (.t 33) (.c (.d (.bool false))), some (20, false), []⟩,
  ⟨some 35, .pick (.t 20) (.c (.d (.bool true))) (.t 34), none, []⟩,
  ⟨some 36, .not (.t 35), none, []⟩]
def r59_5 : List VOper := [
  ⟨some 2, .move (.c (.d (.bool false))), none, []⟩]
def r59_3 : List VOper := [
  ⟨some 8, .move (.t 3), none, []⟩,
  ⟨some 9, .bin .add (.t 8) (.c (.d (.int .i64 1))), none, []⟩,
  ⟨some 3, .move (.t 9), none, []⟩]
def b59_0 : VCode := (.seq (.seq (.region false 0 [0, 3, 7] r59_2) (.cond (.t 7) .skip (.exit 0))) (.seq (.block 1 (.seq (.region false 0 [0, 3, 36] r59_4) (.cond (.t 36) (.seq (.region false 0 [2] r59_5) .ret) .skip))) (.region false 0 [0, 3] r59_3)))
def r59_6 : List VOper := [
  ⟨some 37, .move (.t 0), none, []⟩,
  ⟨some 38, .len true (.t 37), none, []⟩,
  ⟨some 39, .call true (.c (.fn 31 [])) [.t 38, .c (.d (.int .i64 1)), .c (.d (.int .i64 8))], none, []⟩,
  ⟨some 2, .move (.t 39), none, []⟩]
def v59 : VFn := ⟨1, [.tmp 2], (.seq (.region false 0 [0] r59_0) (.seq (.seq (.region false 0 [0, 3] r59_1) (.block 0 (.loop [0, 3] b59_0))) (.seq (.region false 0 [2] r59_6) .ret)))⟩
/-! loop.example/g00461/impl.NameOk -/
def r60_0 : List VOper := [
  ⟨some 2, .move (.c (.d (.bool false))), none, []⟩]
def r60_1 : List VOper := [
  ⟨some 4, .move (.t 0), none, []⟩,
  ⟨some 5, .len true (.t 4), none, []⟩,
  ⟨some 6, .move (.c (.d (.int .i64 0))), none, []⟩]
def r60_2 : List VOper := [
  ⟨some 7, .bin .lss (.t 6) (.t 5), none, []⟩]
def r60_3 : List VOper := [
  ⟨some 8, .move (.t 6), none, []⟩,
  ⟨some 3, .move (.t 8), none, []⟩]
def r60_4 : List VOper := [
  ⟨some 9, .move (.t 0), none, []⟩,
  ⟨some 10, .move (.t 3), none, []⟩,
  ⟨some 11, .index (.t 9) (.t 10), none, []⟩,
  ⟨some 12, .call true (.c (.fn 61 [])) [.t 11], none, []⟩,
  ⟨some 13, .not (.t 12), none, []⟩,
  ⟨some 14, .move (.t 13), none, []⟩,
  ⟨some 15, .move (.t 0), some (14, true), []⟩,
  ⟨some 16, .move (.t 3), some (14, true), []⟩,
  ⟨some 17, .index (.t 15) (.t 16), some (14, true), []⟩,
  ⟨some 18, .call true (.c (.fn 62 [])) [.t 17], some (14, true), []⟩,
  ⟨some 19, .not (.t 18), some (14, true), []⟩,
  ⟨some 20, .pick (.t 14) (.t 19) (.c (.d (.bool false))), none, []⟩]
def r60_5 : List VOper := [
  ⟨some 2, .move (.c (.d (.bool false))), none, []⟩]
def r60_6 : List VOper := [
  ⟨some 21, .bin .add (.t 6) (.c (.d (.int .i64 1))), none, []⟩,
  ⟨some 6, .move (.t 21), none, []⟩]
def b60_0 : VCode := (.seq (.region false 0 [0, 5, 6, 7] r60_2) (.seq (.cond (.t 7) .skip (.exit 0)) (.seq (.block 1 (.seq (.region false 0 [0, 3, 5, 6] r60_3) (.seq (.region false 0 [0, 5, 6, 20] r60_4) (.cond (.t 20) (.seq (.region false 0 [2] r60_5) .ret) .skip)))) (.region false 0 [0, 5, 6] r60_6))))
def r60_7 : List VOper := [
  ⟨some 22, .move (.t 0), none, []⟩,
  ⟨some 23, .len true (.t 22), none, []⟩,
  ⟨some 24, .call true (.c (.fn 30 [])) [.t 23, .c (.d (.int .i64 1)), .c (.d (.int .i64 8))], none, []⟩,
  ⟨some 25, .move (.t 24), none, []⟩,
  ⟨some 26, .move (.t 0), some (25, true), []⟩,
  ⟨some 27, .index (.t 26) (.c (.d (.int .i64 0))), some (25, true), []⟩,
  ⟨some 28, .call true (.c (.fn 61 [])) [.t 27], some (25, true), []⟩,
  ⟨some 29, .pick (.t 25) (.t 28) (.c (.d (.bool false))), none, []⟩,
  ⟨some 2, .move (.t 29), none, []⟩]
def v60 : VFn := ⟨1, [.tmp 2], (.seq (.region false 0 [0] r60_0) (.seq (.seq (.region false 0 [0, 5, 6] r60_1) (.block 0 (.loop [0, 5, 6] b60_0))) (.seq (.region false 0 [2] r60_7) .ret)))⟩
/-! loop.example/g00461/impl.isSmall -/
def r61_0 : List VOper := [
  ⟨some 2, .move (.c (.d (.bool false))), none, []⟩]
def r61_1 : List VOper := [
  ⟨some 3, .move (.t 0), none, []⟩,
  ⟨some 4, .bin .geq (.t 3) (.c (.d (.int .u8 97))), none, []⟩,
  ⟨some 5, .move (.t 4), none, []⟩,
  ⟨some 6, .move (.t 0), some (5, true), []⟩,
  ⟨some 7, .bin .leq (.t 6) (.c (.d (.int .u8 122))), some (5, true), []⟩,
  ⟨some 8, .pick (.t 5) (.t 7) (.c (.d (.bool false))), none, []⟩,
  ⟨some 2, .move (.t 8), none, []⟩]
def v61 : VFn := ⟨1, [.tmp 2], (.seq (.region false 0 [0] r61_0) (.seq (.region false 0 [2] r61_1) .ret))⟩
/-! loop.example/g00461/impl.isDigit -/
def r62_0 : List VOper := [
  ⟨some 2, .move (.c (.d (.bool false))), none, []⟩]
def r62_1 : List VOper := [
  ⟨some 3, .move (.t 0), none, []⟩,
  ⟨some 4, .bin .geq (.t 3) (.c (.d (.int .u8 48))), none, []⟩,
  ⟨some 5, .move (.t 4), none, []⟩,
  ⟨some 6, .move (.t 0), some (5, true), []⟩,
  ⟨some 7, .bin .leq (.t 6) (.c (.d (.int .u8 57))), some (5, true), []⟩,
  ⟨some 8, .pick (.t 5) (.t 7) (.c (.d (.bool false))), none, []⟩,
  ⟨some 2, .move (.t 8), none, []⟩]
def v62 : VFn := ⟨1, [.tmp 2], (.seq (.region false 0 [0] r62_0) (.seq (.region false 0 [2] r62_1) .ret))⟩
/-! loop.example/g00461/laws.FnExactConstants -/
def r63_0 : List VOper := [
  ⟨some 0, .move (.c (.d (.bool false))), none, []⟩]
def r63_1 : List VOper := [
  ⟨some 0, .move (.c (.d (.bool false))), none, []⟩]
def r63_2 : List VOper := [
  ⟨some 0, .move (.c (.d (.bool false))), none, []⟩]
def r63_3 : List VOper := [
  ⟨some 0, .move (.c (.d (.bool false))), none, []⟩]
def r63_4 : List VOper := [
  ⟨some 0, .move (.c (.d (.bool false))), none, []⟩]
def r63_5 : List VOper := [
  ⟨some 0, .move (.c (.d (.bool false))), none, []⟩]
def r63_6 : List VOper := [
  ⟨some 0, .move (.c (.d (.bool false))), none, []⟩]
def r63_7 : List VOper := [
  ⟨some 0, .move (.c (.d (.bool false))), none, []⟩]
def r63_8 : List VOper := [
  ⟨some 0, .move (.c (.d (.bool false))), none, []⟩]
def r63_9 : List VOper := [
  ⟨some 0, .move (.c (.d (.bool false))), none, []⟩]
def r63_10 : List VOper := [
  ⟨some 0, .move (.c (.d (.bool false))), none, []⟩]
def r63_11 : List VOper := [
  ⟨some 0, .move (.c (.d (.bool false))), none, []⟩]
def r63_12 : List VOper := [
  ⟨some 0, .move (.c (.d (.bool false))), none, []⟩]
def r63_13 : List VOper := [
  ⟨some 0, .move (.c (.d (.bool false))), none, []⟩]
def r63_14 : List VOper := [
  ⟨some 0, .move (.c (.d (.bool false))), none, []⟩]
def r63_15 : List VOper := [
  ⟨some 0, .move (.c (.d (.bool false))), none, []⟩]
def r63_16 : List VOper := [
  ⟨some 0, .move (.c (.d (.bool false))), none, []⟩]
def r63_17 : List VOper := [
  ⟨some 0, .move (.c (.d (.bool false))), none, []⟩]
def r63_18 : List VOper := [
  ⟨some 0, .move (.c (.d (.bool false))), none, []⟩]
def r63_19 : List VOper := [
  ⟨some 0, .move (.c (.d (.bool false))), none, []⟩]
def r63_20 : List VOper := [
  ⟨some 0, .move (.c (.d (.bool false))), none, []⟩]
def r63_21 : List VOper := [
  ⟨some 0, .move (.c (.d (.bool false))), none, []⟩]
def r63_22 : List VOper := [
  ⟨some 0, .move (.c (.d (.bool false))), none, []⟩]
def r63_23 : List VOper := [
  ⟨some 0, .move (.c (.d (.bool false))), none, []⟩]
def r63_24 : List VOper := [
  ⟨some 0, .move (.c (.d (.bool false))), none, []⟩]
def r63_25 : List VOper := [
  ⟨some 0, .move (.c (.d (.bool false))), none, []⟩]
def r63_26 : List VOper := [
  ⟨some 0, .move (.c (.d (.bool false))), none, []⟩]
def r63_27 : List VOper := [
  ⟨some 0, .move (.c (.d (.bool false))), none, []⟩]
def r63_28 : List VOper := [
  ⟨some 0, .move (.c (.d (.bool false))), none, []⟩]
def r63_29 : List VOper := [
  ⟨some 0, .move (.c (.d (.bool false))), none, []⟩]
def r63_30 : List VOper := [
  ⟨some 0, .move (.c (.d (.bool false))), none, []⟩]
def r63_31 : List VOper := [
  ⟨some 0, .move (.c (.d (.bool false))), none, []⟩]
def r63_32 : List VOper := [
  ⟨some 0, .move (.c (.d (.bool false))), none, []⟩]
def r63_33 : List VOper := [
  ⟨some 0, .move (.c (.d (.bool false))), none, []⟩]
def r63_34 : List VOper := [
  ⟨some 0, .move (.c (.d (.bool false))), none, []⟩]
def r63_35 : List VOper := [
  ⟨some 0, .move (.c (.d (.bool false))), none, []⟩]
def r63_36 : List VOper := [
  ⟨some 0, .move (.c (.d (.bool false))), none, []⟩]
def r63_37 : List VOper := [
  ⟨some 0, .move (.c (.d (.bool false))), none, []⟩]
def r63_38 : List VOper := [
  ⟨some 0, .move (.c (.d (.bool false))), none, []⟩]
def r63_39 : List VOper := [
  ⟨some 0, .move (.c (.d (.bool false))), none, []⟩]
def r63_40 : List VOper := [
  ⟨some 0, .move (.c (.d (.bool true))), none, []⟩]
def v63 : VFn := ⟨0, [.tmp 0], (.seq (.region false 0 [] r63_0) (.seq (.cond (.c (.d (.bool false))) (.seq (.region false 0 [0] r63_1) .ret) .skip) (.seq (.cond (.c (.d (.bool false))) (.seq (.region false 0 [0] r63_2) .ret) .skip) (.seq (.cond (.c (.d (.bool false))) (.seq (.region false 0 [0] r63_3) .ret) .skip) (.seq (.cond (.c (.d (.bool false))) (.seq (.region false 0 [0] r63_4) .ret) .skip) (.seq (.cond (.c (.d (.bool false))) (.seq (.region false 0 [0] r63_5) .ret) .skip) (.seq (.cond (.c (.d (.bool false))) (.seq (.region false 0 [0] r63_6) .ret) .skip) (.seq (.cond (.c (.d (.bool false))) (.seq (.region false 0 [0] r63_7) .ret) .skip) (.seq (.cond (.c (.d (.bool false))) (.seq (.region false 0 [0] r63_8) .ret) .skip) (.seq (.cond (.c (.d (.bool false))) (.seq (.region false 0 [0] r63_9) .ret) .skip) (.seq (.cond (.c (.d (.bool false))) (.seq (.region false 0 [0] r63_10) .ret) .skip) (.seq (.cond (.c (.d (.bool false))) (.seq (.region false 0 [0] r63_11) .ret) .skip) (.seq (.cond (.c (.d (.bool false))) (.seq (.region false 0 [0] r63_12) .ret) .skip) (.seq (.cond (.c (.d (.bool false))) (.seq (.region false 0 [0] r63_13) .ret) .skip) (.seq (.cond (.c (.d (.bool false))) (.seq (.region false 0 [0] r63_14) .ret) .skip) (.seq (.cond (.c (.d (.bool false))) (.seq (.region false 0 [0] r63_15) .ret) .skip) (.seq (.cond (.c (.d (.bool false))) (.seq (.region false 0 [0] r63_16) .ret) .skip) (.seq (.cond (.c (.d (.bool false))) (.seq (.region false 0 [0] r63_17) .ret) .skip) (.seq (.cond (.c (.d (.bool false))) (.seq (.region false 0 [0] r63_18) .ret) .skip) (.seq (.cond (.c (.d (.bool false))) (.seq (.region false 0 [0] r63_19) .ret) .skip) (.seq (.cond (.c (.d (.bool false))) (.seq (.region false 0 [0] r63_20) .ret) .skip) (.seq (.cond (.c (.d (.bool false))) (.seq (.region false 0 [0] r63_21) .ret) .skip) (.seq (.cond (.c (.d (.bool false))) (.seq (.region false 0 [0] r63_22) .ret) .skip) (.seq (.cond (.c (.d (.bool false))) (.seq (.region false 0 [0] r63_23) .ret) .skip) (.seq (.cond (.c (.d (.bool false))) (.seq (.region false 0 [0] r63_24) .ret) .skip) (.seq (.cond (.c (.d (.bool false))) (.seq (.region false 0 [0] r63_25) .ret) .skip) (.seq (.cond (.c (.d (.bool false))) (.seq (.region false 0 [0] r63_26) .ret) .skip) (.seq (.cond (.c (.d (.bool false))) (.seq (.region false 0 [0] r63_27) .ret) .skip) (.seq (.cond (.c (.d (.bool false))) (.seq (.region false 0 [0] r63_28) .ret) .skip) (.seq (.cond (.c (.d (.bool false))) (.seq (.region false 0 [0] r63_29) .ret) .skip) (.seq (.cond (.c (.d (.bool false))) (.seq (.region false 0 [0] r63_30) .ret) .skip) (.seq (.cond (.c (.d (.bool false))) (.seq (.region false 0 [0] r63_31) .ret) .skip) (.seq (.cond (.c (.d (.bool false))) (.seq (.region false 0 [0] r63_32) .ret) .skip) (.seq (.cond (.c (.d (.bool false))) (.seq (.region false 0 [0] r63_33) .ret) .skip) (.seq (.cond (.c (.d (.bool false))) (.seq (.region false 0 [0] r63_34) .ret) .skip) (.seq (.cond (.c (.d (.bool false))) (.seq (.region false 0 [0] r63_35) .ret) .skip) (.seq (.cond (.c (.d (.bool false))) (.seq (.region false 0 [0] r63_36) .ret) .skip) (.seq (.cond (.c (.d (.bool false))) (.seq (.region false 0 [0] r63_37) .ret) .skip) (.seq (.cond (.c (.d (.bool false))) (.seq (.region false 0 [0] r63_38) .ret) .skip) (.seq (.cond (.c (.d (.bool false))) (.seq (.region false 0 [0] r63_39) .ret) .skip) (.seq (.region false 0 [0] r63_40) .ret)))))))))))))))))))))))))))))))))))))))))⟩
def look : List (Nat × VFn) → Nat → Option VFn
  | [], _ => none
  | (k, v) :: r, n => if n = k then some v else look r n
def codes : List (Nat × VFn) := [(0, v0), (1, v1), (2, v2), (3, v3), (4, v4), (5, v5), (6, v6), (7, v7), (8, v8), (9, v9), (10, v10), (11, v11), (12, v12), (13, v13), (14, v14), (15, v15), (16, v16), (17, v17), (18, v18), (19, v19), (20, v20), (21, v21), (22, v22), (23, v23), (24, v24), (25, v25), (26, v26), (27, v27), (28, v28), (29, v29), (30, v30), (31, v31), (32, v32), (33, v33), (34, v34), (35, v35), (36, v36), (37, v37), (38, v38), (39, v39), (40, v40), (41, v41), (42, v42), (43, v43), (44, v44), (45, v45), (46, v46), (47, v47), (48, v48), (49, v49), (50, v50), (51, v51), (52, v52), (53, v53), (54, v54), (55, v55), (56, v56), (57, v57), (58, v58), (59, v59), (60, v60), (61, v61), (62, v62), (63, v63)]
def E : Env := ⟨look codes, fun _ => none⟩
theorem code_0 : E.code 0 = some v0 := by kernel_rfl
theorem code_1 : E.code 1 = some v1 := by kernel_rfl
theorem code_2 : E.code 2 = some v2 := by kernel_rfl
theorem code_3 : E.code 3 = some v3 := by kernel_rfl
theorem code_4 : E.code 4 = some v4 := by kernel_rfl
theorem code_5 : E.code 5 = some v5 := by kernel_rfl
theorem code_6 : E.code 6 = some v6 := by kernel_rfl
theorem code_7 : E.code 7 = some v7 := by kernel_rfl
theorem code_8 : E.code 8 = some v8 := by kernel_rfl
theorem code_9 : E.code 9 = some v9 := by kernel_rfl
theorem code_10 : E.code 10 = some v10 := by kernel_rfl
theorem code_11 : E.code 11 = some v11 := by kernel_rfl
theorem code_12 : E.code 12 = some v12 := by kernel_rfl
theorem code_13 : E.code 13 = some v13 := by kernel_rfl
theorem code_14 : E.code 14 = some v14 := by kernel_rfl
theorem code_15 : E.code 15 = some v15 := by kernel_rfl
theorem code_16 : E.code 16 = some v16 := by kernel_rfl
theorem code_17 : E.code 17 = some v17 := by kernel_rfl
theorem code_18 : E.code 18 = some v18 := by kernel_rfl
theorem code_19 : E.code 19 = some v19 := by kernel_rfl
theorem code_20 : E.code 20 = some v20 := by kernel_rfl
theorem code_21 : E.code 21 = some v21 := by kernel_rfl
theorem code_22 : E.code 22 = some v22 := by kernel_rfl
theorem code_23 : E.code 23 = some v23 := by kernel_rfl
theorem code_24 : E.code 24 = some v24 := by kernel_rfl
theorem code_25 : E.code 25 = some v25 := by kernel_rfl
theorem code_26 : E.code 26 = some v26 := by kernel_rfl
theorem code_27 : E.code 27 = some v27 := by kernel_rfl
theorem code_28 : E.code 28 = some v28 := by kernel_rfl
theorem code_29 : E.code 29 = some v29 := by kernel_rfl
theorem code_30 : E.code 30 = some v30 := by kernel_rfl
theorem code_31 : E.code 31 = some v31 := by kernel_rfl
theorem code_32 : E.code 32 = some v32 := by kernel_rfl
theorem code_33 : E.code 33 = some v33 := by kernel_rfl
theorem code_34 : E.code 34 = some v34 := by kernel_rfl
theorem code_35 : E.code 35 = some v35 := by kernel_rfl
theorem code_36 : E.code 36 = some v36 := by kernel_rfl
theorem code_37 : E.code 37 = some v37 := by kernel_rfl
theorem code_38 : E.code 38 = some v38 := by kernel_rfl
theorem code_39 : E.code 39 = some v39 := by kernel_rfl
theorem code_40 : E.code 40 = some v40 := by kernel_rfl
theorem code_41 : E.code 41 = some v41 := by kernel_rfl
theorem code_42 : E.code 42 = some v42 := by kernel_rfl
theorem code_43 : E.code 43 = some v43 := by kernel_rfl
theorem code_44 : E.code 44 = some v44 := by kernel_rfl
theorem code_45 : E.code 45 = some v45 := by kernel_rfl
theorem code_46 : E.code 46 = some v46 := by kernel_rfl
theorem code_47 : E.code 47 = some v47 := by kernel_rfl
theorem code_48 : E.code 48 = some v48 := by kernel_rfl
theorem code_49 : E.code 49 = some v49 := by kernel_rfl
theorem code_50 : E.code 50 = some v50 := by kernel_rfl
theorem code_51 : E.code 51 = some v51 := by kernel_rfl
theorem code_52 : E.code 52 = some v52 := by kernel_rfl
theorem code_53 : E.code 53 = some v53 := by kernel_rfl
theorem code_54 : E.code 54 = some v54 := by kernel_rfl
theorem code_55 : E.code 55 = some v55 := by kernel_rfl
theorem code_56 : E.code 56 = some v56 := by kernel_rfl
theorem code_57 : E.code 57 = some v57 := by kernel_rfl
theorem code_58 : E.code 58 = some v58 := by kernel_rfl
theorem code_59 : E.code 59 = some v59 := by kernel_rfl
theorem code_60 : E.code 60 = some v60 := by kernel_rfl
theorem code_61 : E.code 61 = some v61 := by kernel_rfl
theorem code_62 : E.code 62 = some v62 := by kernel_rfl
theorem code_63 : E.code 63 = some v63 := by kernel_rfl
theorem nat_none (k : Nat) : E.nat k = none := rfl
end Go.Proofs.Ytgdclabfecmmmaa.VS
