/- The code of the functions that the laws reach, for the evaluator. -/
import Derived.Test.YtcffalienbbohaaNat0
import Derived.KernelRfl
namespace Go.Proofs.Ytcffalienbbohaa.VS
set_option linter.unusedVariables false
/-! loop.example/g00461/spec.SymOf -/
def r13_0 : List VOper := [
  ⟨some 4, .move (.c (.d (.int .i64 0))), none, []⟩]
def r13_1 : List VOper := [
  ⟨some 5, .move (.c (.d (.int .i64 0))), none, []⟩]
def r13_2 : List VOper := [
  ⟨some 6, .move (.t 5), none, []⟩,
  ⟨some 7, .move (.t 0), none, []⟩,
  ⟨some 8, .len false (.t 7), none, []⟩,
  ⟨some 9, .bin .lss (.t 6) (.t 8), none, []⟩]
def r13_4 : List VOper := [
  ⟨some 12, .move (.t 0), none, []⟩,
  ⟨some 13, .move (.t 5), none, []⟩,
  ⟨some 14, .indexAddr 3 none (.t 12) (.t 13), none, []⟩,
  ⟨some 15, .fieldAddr 0 (.t 14), none, []⟩,
  ⟨some 16, .load false 1 (.t 15), none, []⟩,
  ⟨some 17, .move (.t 1), none, []⟩,
  ⟨some 18, .bin .eql (.t 16) (.t 17), none, []⟩]
def r13_5 : List VOper := [
  ⟨some 19, .move (.t 5), none, []⟩,
  ⟨some 4, .move (.t 19), none, []⟩]
def r13_3 : List VOper := [
  ⟨some 10, .move (.t 5), none, []⟩,
  ⟨some 11, .bin .add (.t 10) (.c (.d (.int .i64 1))), none, []⟩,
  ⟨some 5, .move (.t 11), none, []⟩]
def b13_0 : VCode := (.seq (.seq (.region false 0 [0, 1, 5, 9] r13_2) (.cond (.t 9) .skip (.exit 0))) (.seq (.block 1 (.seq (.region false 0 [0, 1, 5, 18] r13_4) (.cond (.t 18) (.seq (.region false 0 [4] r13_5) .ret) .skip))) (.region false 0 [0, 1, 5] r13_3)))
def r13_6 : List VOper := [
  ⟨some 4, .move (.c (.d (.int .i64 (-1)))), none, []⟩]
def v13 : VFn := ⟨2, [.tmp 4], (.seq (.region false 0 [0, 1] r13_0) (.seq (.seq (.region false 0 [0, 1, 5] r13_1) (.block 0 (.loop [0, 1, 5] b13_0))) (.seq (.region false 0 [4] r13_6) .ret)))⟩
/-! loop.example/g00461/impl.SymOf -/
def r14_0 : List VOper := [
  ⟨some 3, .box 0 (.t 1), none, []⟩,
  ⟨some 4, .move (.c (.d (.int .i64 0))), none, []⟩]
def r14_1 : List VOper := [
  ⟨some 5, .move (.t 0), none, []⟩,
  ⟨some 6, .makeFunc 18 [.t 3], none, []⟩,
  ⟨some 7, .call false (.c (.fn 19 [])) [.t 5, .t 6], none, []⟩,
  ⟨some 4, .move (.t 7), none, []⟩]
def v14 : VFn := ⟨2, [.tmp 4], (.seq (.region false 1 [0, 3] r14_0) (.seq (.region false 0 [4] r14_1) .ret))⟩
/-! loop.example/g00461/impl.SymOf$1 -/
def r18_0 : List VOper := [
  ⟨some 2, .box 0 (.t 0), none, []⟩,
  ⟨some 3, .move (.c (.d (.bool false))), none, []⟩]
def r18_1 : List VOper := [
  ⟨some 4, .fieldAddr 0 (.t 2), none, []⟩,
  ⟨some 5, .load false 1 (.t 4), none, []⟩,
  ⟨some 6, .load false 1 (.t 1), none, []⟩,
  ⟨some 7, .bin .eql (.t 5) (.t 6), none, []⟩,
  ⟨some 3, .move (.t 7), none, []⟩]
def v18 : VFn := ⟨2, [.tmp 3], (.seq (.region false 1 [1, 2] r18_0) (.seq (.region false 0 [3] r18_1) .ret))⟩
/-! slices.IndexFunc[[]loop.example/g00461/impl.Sym,loop.example/g00461/impl.Sym] -/
def r19_0 : List VOper := [
  ⟨some 4, .move (.c (.d (.int .i64 0))), none, []⟩]
def r19_1 : List VOper := [
  ⟨some 6, .move (.t 0), none, []⟩,
  ⟨some 7, .len false (.t 6), none, []⟩,
  ⟨some 8, .move (.c (.d (.int .i64 0))), none, []⟩]
def r19_2 : List VOper := [
  ⟨some 9, .bin .lss (.t 8) (.t 7), none, []⟩]
def r19_3 : List VOper := [
  ⟨some 10, .move (.t 8), none, []⟩,
  ⟨some 5, .move (.t 10), none, []⟩]
def r19_4 : List VOper := [
  ⟨some 11, .move (.t 1), none, []⟩,
  ⟨some 12, .move (.t 0), none, []⟩,
  ⟨some 13, .move (.t 5), none, []⟩,
  ⟨some 14, .indexAddr 3 none (.t 12) (.t 13), none, []⟩,
  ⟨some 15, .load true 3 (.t 14), none, []⟩,
  ⟨some 16, .call false (.t 11) [.t 15], none, []⟩]
def r19_5 : List VOper := [
  ⟨some 17, .move (.t 5), none, []⟩,
  ⟨some 4, .move (.t 17), none, []⟩]
def r19_6 : List VOper := [
  ⟨some 18, .bin .add (.t 8) (.c (.d (.int .i64 1))), none, []⟩,
  ⟨some 8, .move (.t 18), none, []⟩]
def b19_0 : VCode := (.seq (.region false 0 [0, 1, 7, 8, 9] r19_2) (.seq (.cond (.t 9) .skip (.exit 0)) (.seq (.block 1 (.seq (.region false 0 [0, 1, 5, 7, 8] r19_3) (.seq (.region false 0 [0, 1, 5, 7, 8, 16] r19_4) (.cond (.t 16) (.seq (.region false 0 [4] r19_5) .ret) .skip)))) (.region false 0 [0, 1, 7, 8] r19_6))))
def r19_7 : List VOper := [
  ⟨some 4, .move (.c (.d (.int .i64 (-1)))), none, []⟩]
def v19 : VFn := ⟨2, [.tmp 4], (.seq (.region false 0 [0, 1] r19_0) (.seq (.seq (.region false 0 [0, 1, 7, 8] r19_1) (.block 0 (.loop [0, 1, 7, 8] b19_0))) (.seq (.region false 0 [4] r19_7) .ret)))⟩
/-! loop.example/g00461/spec.ArityOf -/
def r27_0 : List VOper := [
  ⟨some 4, .move (.c (.d (.int .i64 0))), none, []⟩]
def r27_1 : List VOper := [
  ⟨some 5, .move (.t 1), none, []⟩,
  ⟨some 6, .move (.t 0), none, []⟩,
  ⟨some 7, .len false (.t 6), none, []⟩,
  ⟨some 8, .bin .sub (.t 7) (.c (.d (.int .i64 1))), none, []⟩,
  ⟨some 9, .call true (.c (.fn 31 [])) [.t 5, .c (.d (.int .i64 0)), .t 8], none, []⟩,
  ⟨some 10, .not (.t 9), none, []⟩]
def r27_2 : List VOper := [
  ⟨some 4, .move (.c (.d (.int .i64 (-1)))), none, []⟩]
def r27_3 : List VOper := [
  ⟨some 11, .move (.t 0), none, []⟩,
  ⟨some 12, .move (.t 1), none, []⟩,
  ⟨some 13, .indexAddr 3 none (.t 11) (.t 12), none, []⟩,
  ⟨some 14, .fieldAddr 1 (.t 13), none, []⟩,
  ⟨some 15, .load false 1 (.t 14), none, []⟩,
  ⟨some 4, .move (.t 15), none, []⟩]
def v27 : VFn := ⟨2, [.tmp 4], (.seq (.region false 0 [0, 1] r27_0) (.seq (.seq (.region false 0 [0, 1, 10] r27_1) (.cond (.t 10) (.seq (.region false 0 [4] r27_2) .ret) .skip)) (.seq (.region false 0 [4] r27_3) .ret)))⟩
/-! loop.example/g00461/impl.ArityOf -/
def r28_0 : List VOper := [
  ⟨some 4, .move (.c (.d (.int .i64 0))), none, []⟩]
def r28_1 : List VOper := [
  ⟨some 5, .move (.t 0), none, []⟩,
  ⟨some 6, .move (.t 1), none, []⟩,
  ⟨some 7, .call true (.c (.fn 29 [])) [.t 5, .t 6], none, []⟩,
  ⟨some 8, .not (.t 7), none, []⟩]
def r28_2 : List VOper := [
  ⟨some 4, .move (.c (.d (.int .i64 (-1)))), none, []⟩]
def r28_3 : List VOper := [
  ⟨some 9, .move (.t 0), none, []⟩,
  ⟨some 10, .move (.t 1), none, []⟩,
  ⟨some 11, .indexAddr 3 none (.t 9) (.t 10), none, []⟩,
  ⟨some 12, .fieldAddr 1 (.t 11), none, []⟩,
  ⟨some 13, .load false 1 (.t 12), none, []⟩,
  ⟨some 4, .move (.t 13), none, []⟩]
def v28 : VFn := ⟨2, [.tmp 4], (.seq (.region false 0 [0, 1] r28_0) (.seq (.seq (.region false 0 [0, 1, 8] r28_1) (.cond (.t 8) (.seq (.region false 0 [4] r28_2) .ret) .skip)) (.seq (.region false 0 [4] r28_3) .ret)))⟩
/-! loop.example/g00461/impl.isSym -/
def r29_0 : List VOper := [
  ⟨some 4, .move (.c (.d (.bool false))), none, []⟩]
def r29_1 : List VOper := [
  ⟨some 5, .move (.t 1), none, []⟩,
  ⟨some 6, .move (.t 0), none, []⟩,
  ⟨some 7, .len false (.t 6), none, []⟩,
  ⟨some 8, .bin .sub (.t 7) (.c (.d (.int .i64 1))), none, []⟩,
  ⟨some 9, .call true (.c (.fn 30 [])) [.t 5, .c (.d (.int .i64 0)), .t 8], none, []⟩,
  ⟨some 4, .move (.t 9), none, []⟩]
def v29 : VFn := ⟨2, [.tmp 4], (.seq (.region false 0 [0, 1] r29_0) (.seq (.region false 0 [4] r29_1) .ret))⟩
/-! loop.example/g00461/impl.from -/
def r30_0 : List VOper := [
  ⟨some 6, .move (.c (.d (.bool false))), none, []⟩]
def r30_1 : List VOper := [
  ⟨some 7, .move (.t 0), none, []⟩,
  ⟨some 8, .move (.t 1), none, []⟩,
  ⟨some 9, .bin .geq (.t 7) (.t 8), none, []⟩,
  ⟨some 10, .move (.t 9), none, []⟩,
  ⟨some 11, .move (.t 0), some (10, true), []⟩,
  ⟨some 12, .move (.t 2), some (10, true), []⟩,
  ⟨some 13, .bin .leq (.t 11) (.t 12), some (10, true), []⟩,
  ⟨some 14, .pick (.t 10) (.t 13) (.c (.d (.bool false))), none, []⟩,
  ⟨some 6, .move (.t 14), none, []⟩]
def v30 : VFn := ⟨3, [.tmp 6], (.seq (.region false 0 [0, 1, 2] r30_0) (.seq (.region false 0 [6] r30_1) .ret))⟩
/-! loop.example/g00461/spec.l1In -/
def r31_0 : List VOper := [
  ⟨some 6, .move (.c (.d (.bool false))), none, []⟩]
def r31_1 : List VOper := [
  ⟨some 7, .move (.t 0), none, []⟩,
  ⟨some 8, .move (.t 1), none, []⟩,
  ⟨some 9, .bin .geq (.t 7) (.t 8), none, []⟩,
  ⟨some 10, .move (.t 9), none, []⟩,
  ⟨some 11, .move (.t 0), some (10, true), []⟩,
  ⟨some 12, .move (.t 2), some (10, true), []⟩,
  ⟨some 13, .bin .leq (.t 11) (.t 12), some (10, true), []⟩,
  ⟨some 14, .pick (.t 10) (.t 13) (.c (.d (.bool false))), none, []⟩,
  ⟨some 6, .move (.t 14), none, []⟩]
def v31 : VFn := ⟨3, [.tmp 6], (.seq (.region false 0 [0, 1, 2] r31_0) (.seq (.region false 0 [6] r31_1) .ret))⟩
/-! loop.example/g00461/spec.Blind -/
def r33_0 : List VOper := [
  ⟨some 4, .move (.c (.d (.bool false))), none, []⟩]
def r33_1 : List VOper := [
  ⟨some 5, .move (.t 1), none, []⟩,
  ⟨some 6, .move (.t 0), none, []⟩,
  ⟨some 7, .len false (.t 6), none, []⟩,
  ⟨some 8, .bin .sub (.t 7) (.c (.d (.int .i64 1))), none, []⟩,
  ⟨some 9, .call true (.c (.fn 31 [])) [.t 5, .c (.d (.int .i64 0)), .t 8], none, []⟩,
  ⟨some 10, .move (.t 9), none, []⟩,
  ⟨some 11, .move (.t 0), some (10, true), []⟩,
  ⟨some 12, .move (.t 1), some (10, true), []⟩,
  ⟨some 13, .indexAddr 3 none (.t 11) (.t 12), some (10, true), []⟩,
  ⟨some 14, .fieldAddr 2 (.t 13), some (10, true), []⟩,
  ⟨some 15, .load false 1 (.t 14), some (10, true), []⟩,
  ⟨some 16, .pick (.t 10) (.t 15) (.c (.d (.bool false))), none, []⟩,
  ⟨some 4, .move (.t 16), none, []⟩]
def v33 : VFn := ⟨2, [.tmp 4], (.seq (.region false 0 [0, 1] r33_0) (.seq (.region false 0 [4] r33_1) .ret))⟩
/-! loop.example/g00461/impl.Blind -/
def r34_0 : List VOper := [
  ⟨some 4, .move (.c (.d (.bool false))), none, []⟩]
def r34_1 : List VOper := [
  ⟨some 5, .move (.t 0), none, []⟩,
  ⟨some 6, .move (.t 1), none, []⟩,
  ⟨some 7, .call true (.c (.fn 29 [])) [.t 5, .t 6], none, []⟩,
  ⟨some 8, .move (.t 7), none, []⟩,
  ⟨some 9, .move (.t 0), some (8, true), []⟩,
  ⟨some 10, .move (.t 1), some (8, true), []⟩,
  ⟨some 11, .indexAddr 3 none (.t 9) (.t 10), some (8, true), []⟩,
  ⟨some 12, .fieldAddr 2 (.t 11), some (8, true), []⟩,
  ⟨some 13, .load false 1 (.t 12), some (8, true), []⟩,
  ⟨some 14, .pick (.t 8) (.t 13) (.c (.d (.bool false))), none, []⟩,
  ⟨some 4, .move (.t 14), none, []⟩]
def v34 : VFn := ⟨2, [.tmp 4], (.seq (.region false 0 [0, 1] r34_0) (.seq (.region false 0 [4] r34_1) .ret))⟩
/-! loop.example/g00461/spec.Number -/
def r36_0 : List VOper := [
  ⟨some 2, .move (.c (.d (.int .i64 0))), none, []⟩,
  ⟨some 3, .move (.c (.d (.bool false))), none, []⟩]
def r36_1 : List VOper := [
  ⟨some 6, .move (.t 0), none, []⟩,
  ⟨some 7, .len true (.t 6), none, []⟩,
  ⟨some 8, .bin .lss (.t 7) (.c (.d (.int .i64 1))), none, []⟩,
  ⟨some 9, .move (.t 8), none, []⟩,
  ⟨some 10, .move (.t 0), some (9, false), []⟩,
  ⟨some 11, .len true (.t 10), some (9, false), []⟩,
  ⟨some 12, .bin .gtr (.t 11) (.c (.d (.int .i64 6))), some (9, false), []⟩,
  ⟨some 13, .pick (.t 9) (.c (.d (.bool true))) (.t 12), none, []⟩]
def r36_2 : List VOper := [
  ⟨some 2, .move (.c (.d (.int .i64 0))), none, []⟩,
  ⟨some 3, .move (.c (.d (.bool false))), none, []⟩]
def r36_3 : List VOper := [
  ⟨some 4, .move (.c (.d (.int .i64 0))), none, []⟩]
def r36_4 : List VOper := [
  ⟨some 5, .move (.c (.d (.int .i64 0))), none, []⟩]
def r36_5 : List VOper := [
  ⟨some 14, .move (.t 5), none, []⟩,
  ⟨some 15, .move (.t 0), none, []⟩,
  ⟨some 16, .len true (.t 15), none, []⟩,
  ⟨some 17, .bin .lss (.t 14) (.t 16), none, []⟩]
def r36_7 : List VOper := [
  ⟨some 20, .move (.t 0), none, []⟩,
  ⟨some 21, .move (.t 5), none, []⟩,
  ⟨some 22, .index (.t 20) (.t 21), none, []⟩,
  ⟨some 23, .bin .lss (.t 22) (.c (.d (.int .u8 48))), none, []⟩,
  ⟨some 24, .move (.t 23), none, []⟩,
  ⟨some 25, .move (.t 0), some (24, false), []⟩,
  ⟨some 26, .move (.t 5), some (24, false), []⟩,
  ⟨some 27, .index (.t 25) (.t 26), some (24, false), []⟩,
  ⟨some 28, .bin .gtr (.t 27) (.c (.d (.int .u8 57))), some (24, false), []⟩,
  ⟨some 29, .pick (.t 24) (.c (.d (.bool true))) (.t 28), none, []⟩]
def r36_8 : List VOper := [
  ⟨some 2, .move (.c (.d (.int .i64 0))), none, []⟩,
  ⟨some 3, .move (.c (.d (.bool false))), none, []⟩]
def r36_9 : List VOper := [
  ⟨some 30, .move (.t 4), none, []⟩,
  ⟨some 31, .bin .mul (.c (.d (.int .i64 10))) (.t 30), none, []⟩,
  ⟨some 32, .move (.t 0), none, []⟩,
  ⟨some 33, .move (.t 5), none, []⟩,
  ⟨some 34, .index (.t 32) (.t 33), none, []⟩,
  ⟨some 35, .conv (.kind .i64) (.t 34), none, []⟩,
  ⟨some 36, .bin .add (.t 31) (.t 35), none, []⟩,
  ⟨some 37, .bin .sub (.t 36) (.c (.d (.int .i64 48))), none, []⟩,
  ⟨some 4, .move (.t 37), none, []⟩]
def r36_6 : List VOper := [
  ⟨some 18, .move (.t 5), none, []⟩,
  ⟨some 19, .bin .add (.t 18) (.c (.d (.int .i64 1))), none, []⟩,
  ⟨some 5, .move (.t 19), none, []⟩]
def b36_0 : VCode := (.seq (.seq (.region false 0 [0, 4, 5, 17] r36_5) (.cond (.t 17) .skip (.exit 0))) (.seq (.block 1 (.seq (.seq (.region false 0 [0, 4, 5, 29] r36_7) (.cond (.t 29) (.seq (.region false 0 [2, 3] r36_8) .ret) .skip)) (.region false 0 [0, 4, 5] r36_9))) (.region false 0 [0, 4, 5] r36_6)))
def r36_10 : List VOper := [
  ⟨some 38, .move (.t 4), none, []⟩,
  ⟨some 39, .call true (.c (.fn 39 [])) [.t 38], none, []⟩,
  ⟨some 40, .move (.t 0), none, []⟩,
  ⟨some 41, .bin .neq (.t 39) (.t 40), none, []⟩]
def r36_11 : List VOper := [
  ⟨some 2, .move (.c (.d (.int .i64 0))), none, []⟩,
  ⟨some 3, .move (.c (.d (.bool false))), none, []⟩]
def r36_12 : List VOper := [
  ⟨some 42, .move (.t 4), none, []⟩,
  ⟨some 2, .move (.t 42), none, []⟩,
  ⟨some 3, .move (.c (.d (.bool true))), none, []⟩]
def v36 : VFn := ⟨1, [.tmp 2, .tmp 3], (.seq (.region false 0 [0] r36_0) (.seq (.seq (.region false 0 [0, 13] r36_1) (.cond (.t 13) (.seq (.region false 0 [2, 3] r36_2) .ret) .skip)) (.seq (.region false 0 [0, 4] r36_3) (.seq (.seq (.region false 0 [0, 4, 5] r36_4) (.block 0 (.loop [0, 4, 5] b36_0))) (.seq (.seq (.region false 0 [4, 41] r36_10) (.cond (.t 41) (.seq (.region false 0 [2, 3] r36_11) .ret) .skip)) (.seq (.region false 0 [2, 3] r36_12) .ret))))))⟩
/-! loop.example/g00461/impl.Number -/
def r37_0 : List VOper := [
  ⟨some 2, .move (.c (.d (.int .i64 0))), none, []⟩,
  ⟨some 3, .move (.c (.d (.bool false))), none, []⟩]
def r37_1 : List VOper := [
  ⟨some 6, .move (.t 0), none, []⟩,
  ⟨some 7, .bin .eql (.t 6) (.c (.d (.str ⟨#[]⟩))), none, []⟩,
  ⟨some 8, .move (.t 7), none, []⟩,
  ⟨some 9, .move (.t 0), some (8, false), []⟩,
  ⟨some 10, .len true (.t 9), some (8, false), []⟩,
  ⟨some 11, .bin .gtr (.t 10) (.c (.d (.int .i64 6))), some (8, false), []⟩,
  ⟨some 12, .pick (.t 8) (.c (.d (.bool true))) (.t 11), none, []⟩]
def r37_2 : List VOper := [
  ⟨some 2, .move (.c (.d (.int .i64 0))), none, []⟩,
  ⟨some 3, .move (.c (.d (.bool false))), none, []⟩]
def r37_3 : List VOper := [
  ⟨some 4, .move (.c (.d (.int .i64 0))), none, []⟩]
def r37_4 : List VOper := [
  ⟨some 13, .move (.t 0), none, []⟩,
  ⟨some 14, .len true (.t 13), none, []⟩,
  ⟨some 15, .move (.c (.d (.int .i64 0))), none, []⟩]
def r37_5 : List VOper := [
  ⟨some 16, .bin .lss (.t 15) (.t 14), none, []⟩]
def r37_6 : List VOper := [
  ⟨some 17, .move (.t 15), none, []⟩,
  ⟨some 5, .move (.t 17), none, []⟩]
def r37_7 : List VOper := [
  ⟨some 18, .move (.t 0), none, []⟩,
  ⟨some 19, .move (.t 5), none, []⟩,
  ⟨some 20, .index (.t 18) (.t 19), none, []⟩,
  ⟨some 21, .bin .lss (.t 20) (.c (.d (.int .u8 48))), none, []⟩,
  ⟨some 22, .move (.t 21), none, []⟩,
  ⟨some 23, .move (.t 0), some (22, false), []⟩,
  ⟨some 24, .move (.t 5), some (22, false), []⟩,
  ⟨some 25, .index (.t 23) (.t 24), some (22, false), []⟩,
  ⟨some 26, .bin .gtr (.t 25) (.c (.d (.int .u8 57))), some (22, false), []⟩,
  ⟨some 27, .pick (.t 22) (.c (.d (.bool true))) (.t 26), none, []⟩]
def r37_8 : List VOper := [
  ⟨some 2, .move (.c (.d (.int .i64 0))), none, []⟩,
  ⟨some 3, .move (.c (.d (.bool false))), none, []⟩]
def r37_9 : List VOper := [
  ⟨some 28, .move (.t 4), none, []⟩,
  ⟨some 29, .bin .mul (.c (.d (.int .i64 10))) (.t 28), none, []⟩,
  ⟨some 30, .move (.t 0), none, []⟩,
  ⟨some 31, .move (.t 5), none, []⟩,
  ⟨some 32, .index (.t 30) (.t 31), none, []⟩,
  ⟨some 33, .bin .sub (.t 32) (.c (.d (.int .u8 48))), none, []⟩,
  ⟨some 34, .conv (.kind .i64) (.t 33), none, []⟩,
  ⟨some 35, .bin .add (.t 29) (.t 34), none, []⟩,
  ⟨some 4, .move (.t 35), none, []⟩]
def r37_10 : List VOper := [
  ⟨some 36, .bin .add (.t 15) (.c (.d (.int .i64 1))), none, []⟩,
  ⟨some 15, .move (.t 36), none, []⟩]
def b37_0 : VCode := (.seq (.region false 0 [0, 4, 14, 15, 16] r37_5) (.seq (.cond (.t 16) .skip (.exit 0)) (.seq (.block 1 (.seq (.region false 0 [0, 4, 5, 14, 15] r37_6) (.seq (.seq (.region false 0 [0, 4, 5, 14, 15, 27] r37_7) (.cond (.t 27) (.seq (.region false 0 [2, 3] r37_8) .ret) .skip)) (.region false 0 [0, 4, 14, 15] r37_9)))) (.region false 0 [0, 4, 14, 15] r37_10))))
def r37_11 : List VOper := [
  ⟨some 37, .move (.t 4), none, []⟩,
  ⟨some 38, .call true (.c (.fn 38 [])) [.t 37], none, []⟩,
  ⟨some 39, .move (.t 0), none, []⟩,
  ⟨some 40, .bin .neq (.t 38) (.t 39), none, []⟩]
def r37_12 : List VOper := [
  ⟨some 2, .move (.c (.d (.int .i64 0))), none, []⟩,
  ⟨some 3, .move (.c (.d (.bool false))), none, []⟩]
def r37_13 : List VOper := [
  ⟨some 41, .move (.t 4), none, []⟩,
  ⟨some 2, .move (.t 41), none, []⟩,
  ⟨some 3, .move (.c (.d (.bool true))), none, []⟩]
def v37 : VFn := ⟨1, [.tmp 2, .tmp 3], (.seq (.region false 0 [0] r37_0) (.seq (.seq (.region false 0 [0, 12] r37_1) (.cond (.t 12) (.seq (.region false 0 [2, 3] r37_2) .ret) .skip)) (.seq (.region false 0 [0, 4] r37_3) (.seq (.seq (.region false 0 [0, 4, 14, 15] r37_4) (.block 0 (.loop [0, 4, 14, 15] b37_0))) (.seq (.seq (.region false 0 [4, 40] r37_11) (.cond (.t 40) (.seq (.region false 0 [2, 3] r37_12) .ret) .skip)) (.seq (.region false 0 [2, 3] r37_13) .ret))))))⟩
/-! loop.example/g00461/impl.Digits -/
def r38_0 : List VOper := [
  ⟨some 2, .move (.c (.d (.str ⟨#[]⟩))), none, []⟩]
def r38_1 : List VOper := [
  ⟨some 4, .move (.t 0), none, []⟩,
  ⟨some 5, .bin .lss (.t 4) (.c (.d (.int .i64 0))), none, []⟩,
  ⟨some 6, .move (.t 5), none, []⟩,
  ⟨some 7, .move (.t 0), some (6, true), []⟩,
  ⟨some 8, .bin .gtr (.t 7) (.c (.d (.int .i64 (-10)))), some (6, true), []⟩,
  ⟨some 9, .pick (.t 6) (.t 8) (.c (.d (.bool false))), none, []⟩,
  ⟨some 3, .move (.t 9), none, []⟩]
def r38_2 : List VOper := [
  ⟨some 10, .move (.t 0), none, []⟩,
  ⟨some 11, .bin .sub (.c (.d (.int .i64 0))) (.t 10), none, []⟩,
  ⟨some 12, .call true (.c (.fn 38 [])) [.t 11], none, []⟩,
  ⟨some 13, .bin .add (.c (.d (.str ⟨#[45]⟩))) (.t 12), none, []⟩,
  ⟨some 2, .move (.t 13), none, []⟩]
def r38_3 : List VOper := [
  ⟨some 15, .move (.t 0), none, []⟩,
  ⟨some 16, .bin .lss (.t 15) (.c (.d (.int .i64 0))), none, []⟩,
  ⟨some 14, .move (.t 16), none, []⟩]
def r38_4 : List VOper := [
  ⟨some 17, .move (.t 0), none, []⟩,
  ⟨some 18, .bin .quo (.t 17) (.c (.d (.int .i64 10))), none, []⟩,
  ⟨some 19, .call true (.c (.fn 38 [])) [.t 18], none, []⟩,
  ⟨some 20, .move (.t 0), none, []⟩,
  ⟨some 21, .bin .rem (.t 20) (.c (.d (.int .i64 10))), none, []⟩,
  ⟨some 22, .bin .sub (.c (.d (.int .i64 0))) (.t 21), none, []⟩,
  ⟨some 23, .call true (.c (.fn 38 [])) [.t 22], none, []⟩,
  ⟨some 24, .bin .add (.t 19) (.t 23), none, []⟩,
  ⟨some 2, .move (.t 24), none, []⟩]
def r38_5 : List VOper := [
  ⟨some 26, .move (.t 0), none, []⟩,
  ⟨some 27, .bin .lss (.t 26) (.c (.d (.int .i64 10))), none, []⟩,
  ⟨some 25, .move (.t 27), none, []⟩]
def r38_6 : List VOper := [
  ⟨some 28, .move (.t 0), none, []⟩,
  ⟨some 29, .bin .add (.c (.d (.int .i64 48))) (.t 28), none, []⟩,
  ⟨some 30, .conv (.kind .i32) (.t 29), none, []⟩,
  ⟨some 31, .conv .rune (.t 30), none, []⟩,
  ⟨some 2, .move (.t 31), none, []⟩]
def r38_7 : List VOper := [
  ⟨some 32, .move (.t 0), none, []⟩,
  ⟨some 33, .bin .quo (.t 32) (.c (.d (.int .i64 10))), none, []⟩,
  ⟨some 34, .call true (.c (.fn 38 [])) [.t 33], none, []⟩,
  ⟨some 35, .move (.t 0), none, []⟩,
  ⟨some 36, .bin .rem (.t 35) (.c (.d (.int .i64 10))), none, []⟩,
  ⟨some 37, .bin .add (.c (.d (.int .i64 48))) (.t 36), none, []⟩,
  ⟨some 38, .conv (.kind .i32) (.t 37), none, []⟩,
  ⟨some 39, .conv .rune (.t 38), none, []⟩,
  ⟨some 40, .bin .add (.t 34) (.t 39), none, []⟩,
  ⟨some 2, .move (.t 40), none, []⟩]
def v38 : VFn := ⟨1, [.tmp 2], (.seq (.region false 0 [0] r38_0) (.seq (.block 0 (.seq (.region false 0 [0, 3] r38_1) (.cond (.t 3) (.seq (.region false 0 [2] r38_2) .ret) (.seq (.region false 0 [0, 14] r38_3) (.cond (.t 14) (.seq (.region false 0 [2] r38_4) .ret) (.seq (.region false 0 [0, 25] r38_5) (.cond (.t 25) (.seq (.region false 0 [2] r38_6) .ret) .skip))))))) (.seq (.region false 0 [2] r38_7) .ret)))⟩
/-! loop.example/g00461/spec.Digits -/
def r39_0 : List VOper := [
  ⟨some 2, .move (.c (.d (.str ⟨#[]⟩))), none, []⟩]
def r39_1 : List VOper := [
  ⟨some 6, .move (.t 0), none, []⟩,
  ⟨some 7, .bin .eql (.t 6) (.c (.d (.int .i64 0))), none, []⟩]
def r39_2 : List VOper := [
  ⟨some 2, .move (.c (.d (.str ⟨#[48]⟩))), none, []⟩]
def r39_3 : List VOper := [
  ⟨some 8, .move (.t 0), none, []⟩,
  ⟨some 9, .bin .lss (.t 8) (.c (.d (.int .i64 0))), none, []⟩,
  ⟨some 3, .move (.t 9), none, []⟩]
def r39_4 : List VOper := [
  ⟨some 4, .move (.c (.d (.str ⟨#[]⟩))), none, []⟩]
def r39_5 : List VOper := [
  ⟨some 10, .move (.t 0), none, []⟩,
  ⟨some 11, .bin .neq (.t 10) (.c (.d (.int .i64 0))), none, []⟩]
def r39_6 : List VOper := [
  ⟨some 12, .move (.t 0), none, []⟩,
  ⟨some 13, .bin .rem (.t 12) (.c (.d (.int .i64 10))), none, []⟩,
  ⟨some 5, .move (.t 13), none, []⟩]
def r39_7 : List VOper := [
  ⟨some 14, .move (.t 5), none, []⟩,
  ⟨some 15, .bin .lss (.t 14) (.c (.d (.int .i64 0))), none, []⟩]
def r39_8 : List VOper := [
  ⟨some 16, .move (.t 5), none, []⟩,
  ⟨some 17, .bin .sub (.c (.d (.int .i64 0))) (.t 16), none, []⟩,
  ⟨some 5, .move (.t 17), none, []⟩]
def r39_9 : List VOper := [
  ⟨some 18, .move (.t 5), none, []⟩,
  ⟨some 19, .bin .add (.c (.d (.int .i64 48))) (.t 18), none, []⟩,
  ⟨some 20, .conv (.kind .u8) (.t 19), none, []⟩,
  ⟨some 21, .buildSlice 1 (.int .u8 0) 1 [(0, .t 20)], none, []⟩,
  ⟨some 22, .conv .bytes (.t 21), none, []⟩,
  ⟨some 23, .move (.t 4), none, []⟩,
  ⟨some 24, .bin .add (.t 22) (.t 23), none, []⟩,
  ⟨some 4, .move (.t 24), none, []⟩]
def r39_10 : List VOper := [
  ⟨some 25, .move (.t 0), none, []⟩,
  ⟨some 26, .bin .quo (.t 25) (.c (.d (.int .i64 10))), none, []⟩,
  ⟨some 0, .move (.t 26), none, []⟩]
def b39_0 : VCode := (.seq (.seq (.region false 0 [0, 3, 4, 11] r39_5) (.cond (.t 11) .skip (.exit 0))) (.block 1 (.seq (.region false 0 [0, 3, 4, 5] r39_6) (.seq (.seq (.region false 0 [0, 3, 4, 5, 15] r39_7) (.cond (.t 15) (.region false 0 [0, 3, 4, 5] r39_8) .skip)) (.seq (.region false 0 [0, 3, 4] r39_9) (.region false 0 [0, 3, 4] r39_10))))))
def r39_11 : List VOper := [
  ⟨some 27, .move (.t 3), none, []⟩]
def r39_12 : List VOper := [
  ⟨some 28, .move (.t 4), none, []⟩,
  ⟨some 29, .bin .add (.c (.d (.str ⟨#[45]⟩))) (.t 28), none, []⟩,
  ⟨some 2, .move (.t 29), none, []⟩]
def r39_13 : List VOper := [
  ⟨some 30, .move (.t 4), none, []⟩,
  ⟨some 2, .move (.t 30), none, []⟩]
def v39 : VFn := ⟨1, [.tmp 2], (.seq (.region false 0 [0] r39_0) (.seq (.seq (.region false 0 [0, 7] r39_1) (.cond (.t 7) (.seq (.region false 0 [2] r39_2) .ret) .skip)) (.seq (.region false 0 [0, 3] r39_3) (.seq (.region false 0 [0, 3, 4] r39_4) (.seq (.block 0 (.loop [0, 3, 4] b39_0)) (.seq (.seq (.region false 0 [4, 27] r39_11) (.cond (.t 27) (.seq (.region false 0 [2] r39_12) .ret) .skip)) (.seq (.region false 0 [2] r39_13) .ret)))))))⟩
/-! loop.example/g00461/laws.toIntS -/
def r41_0 : List VOper := [
  ⟨some 2, .move (.c (.d (.sl .nil []))), none, []⟩]
def r41_1 : List VOper := [
  ⟨some 5, .move (.t 0), none, []⟩,
  ⟨some 6, .len false (.t 5), none, []⟩,
  ⟨some 7, .makeSlice 0 1 8 (.int .i64 0) (.t 6), none, []⟩,
  ⟨some 3, .move (.t 7), none, []⟩]
def r41_2 : List VOper := [
  ⟨some 4, .move (.c (.d (.int .i64 0))), none, []⟩]
def r41_3 : List VOper := [
  ⟨some 8, .move (.t 4), none, []⟩,
  ⟨some 9, .move (.t 0), none, []⟩,
  ⟨some 10, .len false (.t 9), none, []⟩,
  ⟨some 11, .bin .lss (.t 8) (.t 10), none, []⟩]
def r41_5 : List VOper := [
  ⟨some 14, .move (.t 3), none, []⟩,
  ⟨some 15, .move (.t 4), none, []⟩,
  ⟨some 16, .move (.t 0), none, []⟩,
  ⟨some 17, .move (.t 4), none, []⟩,
  ⟨some 18, .indexAddr 1 none (.t 16) (.t 17), none, []⟩,
  ⟨some 19, .load false 1 (.t 18), none, []⟩,
  ⟨some 20, .indexAddr 1 none (.t 14) (.t 15), none, []⟩,
  ⟨none, .store false 1 (.t 20) (.t 19), none, []⟩]
def r41_4 : List VOper := [
  ⟨some 12, .move (.t 4), none, []⟩,
  ⟨some 13, .bin .add (.t 12) (.c (.d (.int .i64 1))), none, []⟩,
  ⟨some 4, .move (.t 13), none, []⟩]
def b41_0 : VCode := (.seq (.seq (.region false 0 [0, 3, 4, 11] r41_3) (.cond (.t 11) .skip (.exit 0))) (.seq (.block 1 (.region false 0 [0, 3, 4] r41_5)) (.region false 0 [0, 3, 4] r41_4)))
def r41_6 : List VOper := [
  ⟨some 21, .move (.t 3), none, []⟩,
  ⟨some 2, .move (.t 21), none, []⟩]
def v41 : VFn := ⟨1, [.tmp 2], (.seq (.region false 0 [0] r41_0) (.seq (.region false 1 [0, 3] r41_1) (.seq (.seq (.region false 0 [0, 3, 4] r41_2) (.block 0 (.loop [0, 3, 4] b41_0))) (.seq (.region false 0 [2] r41_6) .ret))))⟩
/-! loop.example/g00461/spec.Solves -/
def r42_0 : List VOper := [
  ⟨some 6, .move (.c (.d (.bool false))), none, []⟩]
def r42_1 : List VOper := [
  ⟨some 8, .move (.t 2), none, []⟩,
  ⟨some 9, .len false (.t 8), none, []⟩,
  ⟨some 10, .move (.t 0), none, []⟩,
  ⟨some 11, .len false (.t 10), none, []⟩,
  ⟨some 12, .move (.t 1), none, []⟩,
  ⟨some 13, .len false (.t 12), none, []⟩,
  ⟨some 14, .bin .add (.t 11) (.t 13), none, []⟩,
  ⟨some 15, .bin .neq (.t 9) (.t 14), none, []⟩]
def r42_2 : List VOper := [
  ⟨some 6, .move (.c (.d (.bool false))), none, []⟩]
def r42_3 : List VOper := [
  ⟨some 7, .move (.c (.d (.int .i64 0))), none, []⟩]
def r42_4 : List VOper := [
  ⟨some 16, .move (.t 7), none, []⟩,
  ⟨some 17, .move (.t 2), none, []⟩,
  ⟨some 18, .len false (.t 17), none, []⟩,
  ⟨some 19, .bin .lss (.t 16) (.t 18), none, []⟩]
def r42_6 : List VOper := [
  ⟨some 22, .move (.t 2), none, []⟩,
  ⟨some 23, .move (.t 7), none, []⟩,
  ⟨some 24, .indexAddr 1 none (.t 22) (.t 23), none, []⟩,
  ⟨some 25, .load false 1 (.t 24), none, []⟩,
  ⟨some 26, .bin .lss (.t 25) (.c (.d (.int .i64 0))), none, []⟩]
def r42_7 : List VOper := [
  ⟨some 6, .move (.c (.d (.bool false))), none, []⟩]
def r42_5 : List VOper := [
  ⟨some 20, .move (.t 7), none, []⟩,
  ⟨some 21, .bin .add (.t 20) (.c (.d (.int .i64 1))), none, []⟩,
  ⟨some 7, .move (.t 21), none, []⟩]
def b42_0 : VCode := (.seq (.seq (.region false 0 [0, 1, 2, 7, 19] r42_4) (.cond (.t 19) .skip (.exit 0))) (.seq (.block 1 (.seq (.region false 0 [0, 1, 2, 7, 26] r42_6) (.cond (.t 26) (.seq (.region false 0 [6] r42_7) .ret) .skip))) (.region false 0 [0, 1, 2, 7] r42_5)))
def r42_8 : List VOper := [
  ⟨some 27, .move (.t 0), none, []⟩,
  ⟨some 28, .move (.t 2), none, []⟩,
  ⟨some 29, .call true (.c (.fn 48 [])) [.t 27, .t 28, .c (.d (.int .i64 0))], none, []⟩,
  ⟨some 30, .move (.t 1), none, []⟩,
  ⟨some 31, .move (.t 2), none, []⟩,
  ⟨some 32, .move (.t 0), none, []⟩,
  ⟨some 33, .len false (.t 32), none, []⟩,
  ⟨some 34, .call true (.c (.fn 48 [])) [.t 30, .t 31, .t 33], none, []⟩,
  ⟨some 35, .bin .eql (.t 29) (.t 34), none, []⟩,
  ⟨some 6, .move (.t 35), none, []⟩]
def v42 : VFn := ⟨3, [.tmp 6], (.seq (.region false 0 [0, 1, 2] r42_0) (.seq (.seq (.region false 0 [0, 1, 2, 15] r42_1) (.cond (.t 15) (.seq (.region false 0 [6] r42_2) .ret) .skip)) (.seq (.seq (.region false 0 [0, 1, 2, 7] r42_3) (.block 0 (.loop [0, 1, 2, 7] b42_0))) (.seq (.region false 0 [6] r42_8) .ret))))⟩
/-! loop.example/g00461/impl.Solves -/
def r43_0 : List VOper := [
  ⟨some 6, .move (.c (.d (.bool false))), none, []⟩]
def r43_1 : List VOper := [
  ⟨some 12, .move (.t 2), none, []⟩,
  ⟨some 13, .len false (.t 12), none, []⟩,
  ⟨some 14, .move (.t 0), none, []⟩,
  ⟨some 15, .len false (.t 14), none, []⟩,
  ⟨some 16, .move (.t 1), none, []⟩,
  ⟨some 17, .len false (.t 16), none, []⟩,
  ⟨some 18, .bin .add (.t 15) (.t 17), none, []⟩,
  ⟨some 19, .bin .neq (.t 13) (.t 18), none, []⟩,
  ⟨some 20, .move (.t 19), none, []⟩,
  ⟨some 21, .move (.t 2), some (20, false), []⟩,
  ⟨some 22, .call false (.c (.fn 45 [])) [.t 21, .c (.fn 46 [])], some (20, false), []⟩,
  ⟨some 23, .pick (.t 20) (.c (.d (.bool true))) (.t 22), none, []⟩]
def r43_2 : List VOper := [
  ⟨some 6, .move (.c (.d (.bool false))), none, []⟩]
def r43_3 : List VOper := [
  ⟨some 7, .move (.c (.d (.int .i64 0))), none, []⟩]
def r43_4 : List VOper := [
  ⟨some 24, .move (.t 0), none, []⟩,
  ⟨some 25, .len false (.t 24), none, []⟩,
  ⟨some 26, .move (.c (.d (.int .i64 0))), none, []⟩]
def r43_5 : List VOper := [
  ⟨some 27, .bin .lss (.t 26) (.t 25), none, []⟩]
def r43_6 : List VOper := [
  ⟨some 28, .move (.t 26), none, []⟩,
  ⟨some 29, .indexAddr 1 none (.t 24) (.t 26), none, []⟩,
  ⟨some 30, .load false 1 (.t 29), none, []⟩,
  ⟨some 8, .move (.t 28), none, []⟩,
  ⟨some 9, .move (.t 30), none, []⟩]
def r43_7 : List VOper := [
  ⟨some 31, .move (.t 7), none, []⟩,
  ⟨some 32, .move (.t 9), none, []⟩,
  ⟨some 33, .move (.t 2), none, []⟩,
  ⟨some 34, .move (.t 8), none, []⟩,
  ⟨some 35, .indexAddr 1 none (.t 33) (.t 34), none, []⟩,
  ⟨some 36, .load false 1 (.t 35), none, []⟩,
  ⟨some 37, .bin .mul (.t 32) (.t 36), none, []⟩,
  ⟨some 38, .bin .add (.t 31) (.t 37), none, []⟩,
  ⟨some 7, .move (.t 38), none, []⟩]
def r43_8 : List VOper := [
  ⟨some 39, .bin .add (.t 26) (.c (.d (.int .i64 1))), none, []⟩,
  ⟨some 26, .move (.t 39), none, []⟩]
def b43_0 : VCode := (.seq (.region false 0 [0, 1, 2, 7, 24, 25, 26, 27] r43_5) (.seq (.cond (.t 27) .skip (.exit 0)) (.seq (.block 1 (.seq (.region false 0 [0, 1, 2, 7, 8, 9, 24, 25, 26] r43_6) (.region false 0 [0, 1, 2, 7, 24, 25, 26] r43_7))) (.region false 0 [0, 1, 2, 7, 24, 25, 26] r43_8))))
def r43_9 : List VOper := [
  ⟨some 40, .move (.t 1), none, []⟩,
  ⟨some 41, .len false (.t 40), none, []⟩,
  ⟨some 42, .move (.c (.d (.int .i64 0))), none, []⟩]
def r43_10 : List VOper := [
  ⟨some 43, .bin .lss (.t 42) (.t 41), none, []⟩]
def r43_11 : List VOper := [
  ⟨some 44, .move (.t 42), none, []⟩,
  ⟨some 45, .indexAddr 1 none (.t 40) (.t 42), none, []⟩,
  ⟨some 46, .load false 1 (.t 45), none, []⟩,
  ⟨some 10, .move (.t 44), none, []⟩,
  ⟨some 11, .move (.t 46), none, []⟩]
def r43_12 : List VOper := [
  ⟨some 47, .move (.t 7), none, []⟩,
  ⟨some 48, .move (.t 11), none, []⟩,
  ⟨some 49, .move (.t 2), none, []⟩,
  ⟨some 50, .move (.t 0), none, []⟩,
  ⟨some 51, .len false (.t 50), none, []⟩,
  ⟨some 52, .move (.t 10), none, []⟩,
  ⟨some 53, .bin .add (.t 51) (.t 52), none, []⟩,
  ⟨some 54, .indexAddr 1 none (.t 49) (.t 53), none, []⟩,
  ⟨some 55, .load false 1 (.t 54), none, []⟩,
  ⟨some 56, .bin .mul (.t 48) (.t 55), none, []⟩,
  ⟨some 57, .bin .sub (.t 47) (.t 56), none, []⟩,
  ⟨some 7, .move (.t 57), none, []⟩]
def r43_13 : List VOper := [
  ⟨some 58, .bin .add (.t 42) (.c (.d (.int .i64 1))), none, []⟩,
  ⟨some 42, .move (.t 58), none, []⟩]
def b43_1 : VCode := (.seq (.region false 0 [0, 2, 7, 40, 41, 42, 43] r43_10) (.seq (.cond (.t 43) .skip (.exit 2)) (.seq (.block 3 (.seq (.region false 0 [0, 2, 7, 10, 11, 40, 41, 42] r43_11) (.region false 0 [0, 2, 7, 40, 41, 42] r43_12))) (.region false 0 [0, 2, 7, 40, 41, 42] r43_13))))
def r43_14 : List VOper := [
  ⟨some 59, .move (.t 7), none, []⟩,
  ⟨some 60, .bin .eql (.t 59) (.c (.d (.int .i64 0))), none, []⟩,
  ⟨some 6, .move (.t 60), none, []⟩]
def v43 : VFn := ⟨3, [.tmp 6], (.seq (.region false 0 [0, 1, 2] r43_0) (.seq (.seq (.region false 0 [0, 1, 2, 23] r43_1) (.cond (.t 23) (.seq (.region false 0 [6] r43_2) .ret) .skip)) (.seq (.region false 0 [0, 1, 2, 7] r43_3) (.seq (.seq (.region false 0 [0, 1, 2, 7, 24, 25, 26] r43_4) (.block 0 (.loop [0, 1, 2, 7, 24, 25, 26] b43_0))) (.seq (.seq (.region false 0 [0, 2, 7, 40, 41, 42] r43_9) (.block 2 (.loop [0, 2, 7, 40, 41, 42] b43_1))) (.seq (.region false 0 [6] r43_14) .ret))))))⟩
/-! loop.example/g00461/laws.eqIntS -/
def r44_0 : List VOper := [
  ⟨some 4, .move (.c (.d (.bool false))), none, []⟩]
def r44_1 : List VOper := [
  ⟨some 6, .move (.t 0), none, []⟩,
  ⟨some 7, .len false (.t 6), none, []⟩,
  ⟨some 8, .move (.t 1), none, []⟩,
  ⟨some 9, .len false (.t 8), none, []⟩,
  ⟨some 10, .bin .neq (.t 7) (.t 9), none, []⟩]
def r44_2 : List VOper := [
  ⟨some 4, .move (.c (.d (.bool false))), none, []⟩]
def r44_3 : List VOper := [
  ⟨some 5, .move (.c (.d (.int .i64 0))), none, []⟩]
def r44_4 : List VOper := [
  ⟨some 11, .move (.t 5), none, []⟩,
  ⟨some 12, .move (.t 0), none, []⟩,
  ⟨some 13, .len false (.t 12), none, []⟩,
  ⟨some 14, .bin .lss (.t 11) (.t 13), none, []⟩]
def r44_6 : List VOper := [
  ⟨some 17, .move (.t 0), none, []⟩,
  ⟨some 18, .move (.t 5), none, []⟩,
  ⟨some 19, .indexAddr 1 none (.t 17) (.t 18), none, [0, 1]⟩,
  ⟨some 20, .load false 1 (.t 19), none, [2]⟩,
  ⟨some 21, .move (.t 1), none, []⟩,
  ⟨some 22, .move (.t 5), none, []⟩,
  ⟨some 23, .indexAddr 1 none (.t 21) (.t 22), none, [4, 5]⟩,
  ⟨some 24, .load false 1 (.t 23), none, [6]⟩,
  ⟨some 25, .bin .neq (.t 20) (.t 24), none, [3, 7]⟩]
def r44_7 : List VOper := [
  ⟨some 4, .move (.c (.d (.bool false))), none, []⟩]
def r44_5 : List VOper := [
  ⟨some 15, .move (.t 5), none, []⟩,
  ⟨some 16, .bin .add (.t 15) (.c (.d (.int .i64 1))), none, []⟩,
  ⟨some 5, .move (.t 16), none, []⟩]
def b44_0 : VCode := (.seq (.seq (.region false 0 [0, 1, 5, 14] r44_4) (.cond (.t 14) .skip (.exit 0))) (.seq (.block 1 (.seq (.region true 0 [0, 1, 5, 25] r44_6) (.cond (.t 25) (.seq (.region false 0 [4] r44_7) .ret) .skip))) (.region false 0 [0, 1, 5] r44_5)))
def r44_8 : List VOper := [
  ⟨some 4, .move (.c (.d (.bool true))), none, []⟩]
def v44 : VFn := ⟨2, [.tmp 4], (.seq (.region false 0 [0, 1] r44_0) (.seq (.seq (.region false 0 [0, 1, 10] r44_1) (.cond (.t 10) (.seq (.region false 0 [4] r44_2) .ret) .skip)) (.seq (.seq (.region false 0 [0, 1, 5] r44_3) (.block 0 (.loop [0, 1, 5] b44_0))) (.seq (.region false 0 [4] r44_8) .ret))))⟩
/-! slices.ContainsFunc[[]int,int] -/
def r45_0 : List VOper := [
  ⟨some 4, .move (.c (.d (.bool false))), none, []⟩]
def r45_1 : List VOper := [
  ⟨some 5, .move (.t 0), none, []⟩,
  ⟨some 6, .move (.t 1), none, []⟩,
  ⟨some 7, .call false (.c (.fn 47 [])) [.t 5, .t 6], none, []⟩,
  ⟨some 8, .bin .geq (.t 7) (.c (.d (.int .i64 0))), none, []⟩,
  ⟨some 4, .move (.t 8), none, []⟩]
def v45 : VFn := ⟨2, [.tmp 4], (.seq (.region false 0 [0, 1] r45_0) (.seq (.region false 0 [4] r45_1) .ret))⟩
/-! loop.example/g00461/impl.Solves$1 -/
def r46_0 : List VOper := [
  ⟨some 2, .move (.c (.d (.bool false))), none, []⟩]
def r46_1 : List VOper := [
  ⟨some 3, .move (.t 0), none, []⟩,
  ⟨some 4, .bin .lss (.t 3) (.c (.d (.int .i64 0))), none, []⟩,
  ⟨some 2, .move (.t 4), none, []⟩]
def v46 : VFn := ⟨1, [.tmp 2], (.seq (.region false 0 [0] r46_0) (.seq (.region false 0 [2] r46_1) .ret))⟩
/-! slices.IndexFunc[[]int,int] -/
def r47_0 : List VOper := [
  ⟨some 4, .move (.c (.d (.int .i64 0))), none, []⟩]
def r47_1 : List VOper := [
  ⟨some 6, .move (.t 0), none, []⟩,
  ⟨some 7, .len false (.t 6), none, []⟩,
  ⟨some 8, .move (.c (.d (.int .i64 0))), none, []⟩]
def r47_2 : List VOper := [
  ⟨some 9, .bin .lss (.t 8) (.t 7), none, []⟩]
def r47_3 : List VOper := [
  ⟨some 10, .move (.t 8), none, []⟩,
  ⟨some 5, .move (.t 10), none, []⟩]
def r47_4 : List VOper := [
  ⟨some 11, .move (.t 1), none, []⟩,
  ⟨some 12, .move (.t 0), none, []⟩,
  ⟨some 13, .move (.t 5), none, []⟩,
  ⟨some 14, .indexAddr 1 none (.t 12) (.t 13), none, []⟩,
  ⟨some 15, .load false 1 (.t 14), none, []⟩,
  ⟨some 16, .call false (.t 11) [.t 15], none, []⟩]
def r47_5 : List VOper := [
  ⟨some 17, .move (.t 5), none, []⟩,
  ⟨some 4, .move (.t 17), none, []⟩]
def r47_6 : List VOper := [
  ⟨some 18, .bin .add (.t 8) (.c (.d (.int .i64 1))), none, []⟩,
  ⟨some 8, .move (.t 18), none, []⟩]
def b47_0 : VCode := (.seq (.region false 0 [0, 1, 7, 8, 9] r47_2) (.seq (.cond (.t 9) .skip (.exit 0)) (.seq (.block 1 (.seq (.region false 0 [0, 1, 5, 7, 8] r47_3) (.seq (.region false 0 [0, 1, 5, 7, 8, 16] r47_4) (.cond (.t 16) (.seq (.region false 0 [4] r47_5) .ret) .skip)))) (.region false 0 [0, 1, 7, 8] r47_6))))
def r47_7 : List VOper := [
  ⟨some 4, .move (.c (.d (.int .i64 (-1)))), none, []⟩]
def v47 : VFn := ⟨2, [.tmp 4], (.seq (.region false 0 [0, 1] r47_0) (.seq (.seq (.region false 0 [0, 1, 7, 8] r47_1) (.block 0 (.loop [0, 1, 7, 8] b47_0))) (.seq (.region false 0 [4] r47_7) .ret)))⟩
/-! loop.example/g00461/spec.l7Total -/
def r48_0 : List VOper := [
  ⟨some 6, .move (.c (.d (.int .i64 0))), none, []⟩]
def r48_1 : List VOper := [
  ⟨some 7, .move (.c (.d (.int .i64 0))), none, []⟩]
def r48_2 : List VOper := [
  ⟨some 8, .move (.c (.d (.int .i64 0))), none, []⟩]
def r48_3 : List VOper := [
  ⟨some 9, .move (.t 8), none, []⟩,
  ⟨some 10, .move (.t 0), none, []⟩,
  ⟨some 11, .len false (.t 10), none, []⟩,
  ⟨some 12, .bin .lss (.t 9) (.t 11), none, []⟩]
def r48_5 : List VOper := [
  ⟨some 15, .move (.t 7), none, []⟩,
  ⟨some 16, .move (.t 0), none, []⟩,
  ⟨some 17, .move (.t 8), none, []⟩,
  ⟨some 18, .indexAddr 1 none (.t 16) (.t 17), none, [1, 2]⟩,
  ⟨some 19, .load false 1 (.t 18), none, [3]⟩,
  ⟨some 20, .move (.t 1), none, []⟩,
  ⟨some 21, .move (.t 2), none, []⟩,
  ⟨some 22, .move (.t 8), none, []⟩,
  ⟨some 23, .bin .add (.t 21) (.t 22), none, [6, 7]⟩,
  ⟨some 24, .indexAddr 1 none (.t 20) (.t 23), none, [5, 8]⟩,
  ⟨some 25, .load false 1 (.t 24), none, [9]⟩,
  ⟨some 26, .bin .mul (.t 19) (.t 25), none, [4, 10]⟩,
  ⟨some 27, .bin .add (.t 15) (.t 26), none, [0, 11]⟩,
  ⟨some 7, .move (.t 27), none, [0, 1, 2, 3, 4, 5, 6, 7, 8, 9, 10, 11, 12]⟩]
def r48_4 : List VOper := [
  ⟨some 13, .move (.t 8), none, []⟩,
  ⟨some 14, .bin .add (.t 13) (.c (.d (.int .i64 1))), none, []⟩,
  ⟨some 8, .move (.t 14), none, []⟩]
def b48_0 : VCode := (.seq (.seq (.region false 0 [0, 1, 2, 7, 8, 12] r48_3) (.cond (.t 12) .skip (.exit 0))) (.seq (.block 1 (.region true 0 [0, 1, 2, 7, 8] r48_5)) (.region false 0 [0, 1, 2, 7, 8] r48_4)))
def r48_6 : List VOper := [
  ⟨some 28, .move (.t 7), none, []⟩,
  ⟨some 6, .move (.t 28), none, []⟩]
def v48 : VFn := ⟨3, [.tmp 6], (.seq (.region false 0 [0, 1, 2] r48_0) (.seq (.region false 0 [0, 1, 2, 7] r48_1) (.seq (.seq (.region false 0 [0, 1, 2, 7, 8] r48_2) (.block 0 (.loop [0, 1, 2, 7, 8] b48_0))) (.seq (.region false 0 [6] r48_6) .ret))))⟩
/-! loop.example/g00461/spec.Least -/
def r50_0 : List VOper := [
  ⟨some 4, .move (.c (.d (.bool false))), none, []⟩]
def r50_1 : List VOper := [
  ⟨some 5, .move (.c (.d (.bool false))), none, []⟩]
def r50_2 : List VOper := [
  ⟨some 6, .move (.c (.d (.int .i64 0))), none, []⟩]
def r50_3 : List VOper := [
  ⟨some 7, .move (.t 6), none, []⟩,
  ⟨some 8, .move (.t 0), none, []⟩,
  ⟨some 9, .len false (.t 8), none, []⟩,
  ⟨some 10, .bin .lss (.t 7) (.t 9), none, []⟩,
  ⟨some 11, .move (.t 10), none, []⟩,
  ⟨some 12, .move (.t 6), some (11, true), []⟩,
  ⟨some 13, .move (.t 1), some (11, true), []⟩,
  ⟨some 14, .len false (.t 13), some (11, true), []⟩,
  ⟨some 15, .bin .lss (.t 12) (.t 14), some (11, true), []⟩,
  ⟨some 16, .pick (.t 11) (.t 15) (.c (.d (.bool false))), none, []⟩]
def r50_5 : List VOper := [
  ⟨some 19, .move (.t 0), none, []⟩,
  ⟨some 20, .move (.t 6), none, []⟩,
  ⟨some 21, .indexAddr 1 none (.t 19) (.t 20), none, [0, 1]⟩,
  ⟨some 22, .load false 1 (.t 21), none, [2]⟩,
  ⟨some 23, .move (.t 1), none, []⟩,
  ⟨some 24, .move (.t 6), none, []⟩,
  ⟨some 25, .indexAddr 1 none (.t 23) (.t 24), none, [4, 5]⟩,
  ⟨some 26, .load false 1 (.t 25), none, [6]⟩,
  ⟨some 27, .bin .gtr (.t 22) (.t 26), none, [3, 7]⟩]
def r50_6 : List VOper := [
  ⟨some 4, .move (.c (.d (.bool false))), none, []⟩]
def r50_7 : List VOper := [
  ⟨some 28, .move (.t 5), none, []⟩,
  ⟨some 29, .move (.t 28), none, [0]⟩,
  ⟨some 30, .move (.t 0), some (29, false), [1]⟩,
  ⟨some 31, .move (.t 6), some (29, false), [1]⟩,
  ⟨some 32, .indexAddr 1 none (.t 30) (.t 31), some (29, false), [1, 2, 3]⟩,
  ⟨some 33, .load false 1 (.t 32), some (29, false), [1, 4]⟩,
  ⟨some 34, .move (.t 1), some (29, false), [1]⟩,
  ⟨some 35, .move (.t 6), some (29, false), [1]⟩,
  ⟨some 36, .indexAddr 1 none (.t 34) (.t 35), some (29, false), [1, 6, 7]⟩,
  ⟨some 37, .load false 1 (.t 36), some (29, false), [1, 8]⟩,
  ⟨some 38, .bin .lss (.t 33) (.t 37), some (29, false), [1, 5, 9]⟩,
  ⟨some 39, .pick (.t 29) (.c (.d (.bool true))) (.t 38), none, [1, 10]⟩,
  ⟨some 5, .move (.t 39), none, [0, 1, 2, 3, 4, 5, 6, 7, 8, 9, 10, 11]⟩]
def r50_4 : List VOper := [
  ⟨some 17, .move (.t 6), none, []⟩,
  ⟨some 18, .bin .add (.t 17) (.c (.d (.int .i64 1))), none, []⟩,
  ⟨some 6, .move (.t 18), none, []⟩]
def b50_0 : VCode := (.seq (.seq (.region false 0 [0, 1, 5, 6, 16] r50_3) (.cond (.t 16) .skip (.exit 0))) (.seq (.block 1 (.seq (.seq (.region true 0 [0, 1, 5, 6, 27] r50_5) (.cond (.t 27) (.seq (.region false 0 [4] r50_6) .ret) .skip)) (.region true 0 [0, 1, 5, 6] r50_7))) (.region false 0 [0, 1, 5, 6] r50_4)))
def r50_8 : List VOper := [
  ⟨some 40, .move (.t 5), none, []⟩,
  ⟨some 41, .move (.t 40), none, []⟩,
  ⟨some 42, .move (.t 0), some (41, true), []⟩,
  ⟨some 43, .len false (.t 42), some (41, true), []⟩,
  ⟨some 44, .move (.t 1), some (41, true), []⟩,
  ⟨some 45, .len false (.t 44), some (41, true), []⟩,
  ⟨some 46, .bin .eql (.t 43) (.t 45), some (41, true), []⟩,
  ⟨some 47, .pick (.t 41) (.t 46) (.c (.d (.bool false))), none, []⟩,
  ⟨some 4, .move (.t 47), none, []⟩]
def v50 : VFn := ⟨2, [.tmp 4], (.seq (.region false 0 [0, 1] r50_0) (.seq (.region false 0 [0, 1, 5] r50_1) (.seq (.seq (.region false 0 [0, 1, 5, 6] r50_2) (.block 0 (.loop [0, 1, 5, 6] b50_0))) (.seq (.region false 0 [4] r50_8) .ret))))⟩
/-! loop.example/g00461/impl.Least -/
def r51_0 : List VOper := [
  ⟨some 4, .move (.c (.d (.bool false))), none, []⟩]
def r51_1 : List VOper := [
  ⟨some 7, .move (.t 0), none, []⟩,
  ⟨some 8, .len false (.t 7), none, []⟩,
  ⟨some 9, .move (.t 1), none, []⟩,
  ⟨some 10, .len false (.t 9), none, []⟩,
  ⟨some 11, .bin .neq (.t 8) (.t 10), none, []⟩]
def r51_2 : List VOper := [
  ⟨some 4, .move (.c (.d (.bool false))), none, []⟩]
def r51_3 : List VOper := [
  ⟨some 5, .move (.c (.d (.bool false))), none, []⟩]
def r51_4 : List VOper := [
  ⟨some 12, .move (.t 0), none, []⟩,
  ⟨some 13, .len false (.t 12), none, []⟩,
  ⟨some 14, .move (.c (.d (.int .i64 0))), none, []⟩]
def r51_5 : List VOper := [
  ⟨some 15, .bin .lss (.t 14) (.t 13), none, []⟩]
def r51_6 : List VOper := [
  ⟨some 16, .move (.t 14), none, []⟩,
  ⟨some 6, .move (.t 16), none, []⟩]
def r51_7 : List VOper := [
  ⟨some 17, .move (.t 0), none, []⟩,
  ⟨some 18, .move (.t 6), none, []⟩,
  ⟨some 19, .indexAddr 1 none (.t 17) (.t 18), none, [0, 1]⟩,
  ⟨some 20, .load false 1 (.t 19), none, [2]⟩,
  ⟨some 21, .move (.t 1), none, []⟩,
  ⟨some 22, .move (.t 6), none, []⟩,
  ⟨some 23, .indexAddr 1 none (.t 21) (.t 22), none, [4, 5]⟩,
  ⟨some 24, .load false 1 (.t 23), none, [6]⟩,
  ⟨some 25, .bin .gtr (.t 20) (.t 24), none, [3, 7]⟩]
def r51_8 : List VOper := [
  ⟨some 4, .move (.c (.d (.bool false))), none, []⟩]
def r51_9 : List VOper := [
  ⟨some 26, .move (.t 5), none, []⟩,
  ⟨some 27, .move (.t 26), none, [0]⟩,
  ⟨some 28, .move (.t 0), some (27, false), [1]⟩,
  ⟨some 29, .move (.t 6), some (27, false), [1]⟩,
  ⟨some 30, .indexAddr 1 none (.t 28) (.t 29), some (27, false), [1, 2, 3]⟩,
  ⟨some 31, .load false 1 (.t 30), some (27, false), [1, 4]⟩,
  ⟨some 32, .move (.t 1), some (27, false), [1]⟩,
  ⟨some 33, .move (.t 6), some (27, false), [1]⟩,
  ⟨some 34, .indexAddr 1 none (.t 32) (.t 33), some (27, false), [1, 6, 7]⟩,
  ⟨some 35, .load false 1 (.t 34), some (27, false), [1, 8]⟩,
  ⟨some 36, .bin .lss (.t 31) (.t 35), some (27, false), [1, 5, 9]⟩,
  ⟨some 37, .pick (.t 27) (.c (.d (.bool true))) (.t 36), none, [1, 10]⟩,
  ⟨some 5, .move (.t 37), none, [0, 1, 2, 3, 4, 5, 6, 7, 8, 9, 10, 11]⟩]
def r51_10 : List VOper := [
  ⟨some 38, .bin .add (.t 14) (.c (.d (.int .i64 1))), none, []⟩,
  ⟨some 14, .move (.t 38), none, []⟩]
def b51_0 : VCode := (.seq (.region false 0 [0, 1, 5, 13, 14, 15] r51_5) (.seq (.cond (.t 15) .skip (.exit 0)) (.seq (.block 1 (.seq (.region false 0 [0, 1, 5, 6, 13, 14] r51_6) (.seq (.seq (.region true 0 [0, 1, 5, 6, 13, 14, 25] r51_7) (.cond (.t 25) (.seq (.region false 0 [4] r51_8) .ret) .skip)) (.region true 0 [0, 1, 5, 13, 14] r51_9)))) (.region false 0 [0, 1, 5, 13, 14] r51_10))))
def r51_11 : List VOper := [
  ⟨some 39, .move (.t 5), none, []⟩,
  ⟨some 4, .move (.t 39), none, []⟩]
def v51 : VFn := ⟨2, [.tmp 4], (.seq (.region false 0 [0, 1] r51_0) (.seq (.seq (.region false 0 [0, 1, 11] r51_1) (.cond (.t 11) (.seq (.region false 0 [4] r51_2) .ret) .skip)) (.seq (.region false 0 [0, 1, 5] r51_3) (.seq (.seq (.region false 0 [0, 1, 5, 13, 14] r51_4) (.block 0 (.loop [0, 1, 5, 13, 14] b51_0))) (.seq (.region false 0 [4] r51_11) .ret)))))⟩
/-! loop.example/g00461/spec.NumIn -/
def r53_0 : List VOper := [
  ⟨some 4, .move (.c (.d (.bool false))), none, []⟩]
def r53_1 : List VOper := [
  ⟨some 5, .move (.c (.d (.int .i64 0))), none, []⟩]
def r53_2 : List VOper := [
  ⟨some 6, .move (.t 5), none, []⟩,
  ⟨some 7, .move (.t 0), none, []⟩,
  ⟨some 8, .len false (.t 7), none, []⟩,
  ⟨some 9, .bin .lss (.t 6) (.t 8), none, []⟩]
def r53_4 : List VOper := [
  ⟨some 12, .move (.t 0), none, []⟩,
  ⟨some 13, .move (.t 5), none, []⟩,
  ⟨some 14, .indexAddr 1 none (.t 12) (.t 13), none, []⟩,
  ⟨some 15, .load false 1 (.t 14), none, []⟩,
  ⟨some 16, .move (.t 1), none, []⟩,
  ⟨some 17, .bin .eql (.t 15) (.t 16), none, []⟩]
def r53_5 : List VOper := [
  ⟨some 4, .move (.c (.d (.bool true))), none, []⟩]
def r53_3 : List VOper := [
  ⟨some 10, .move (.t 5), none, []⟩,
  ⟨some 11, .bin .add (.t 10) (.c (.d (.int .i64 1))), none, []⟩,
  ⟨some 5, .move (.t 11), none, []⟩]
def b53_0 : VCode := (.seq (.seq (.region false 0 [0, 1, 5, 9] r53_2) (.cond (.t 9) .skip (.exit 0))) (.seq (.block 1 (.seq (.region false 0 [0, 1, 5, 17] r53_4) (.cond (.t 17) (.seq (.region false 0 [4] r53_5) .ret) .skip))) (.region false 0 [0, 1, 5] r53_3)))
def r53_6 : List VOper := [
  ⟨some 4, .move (.c (.d (.bool false))), none, []⟩]
def v53 : VFn := ⟨2, [.tmp 4], (.seq (.region false 0 [0, 1] r53_0) (.seq (.seq (.region false 0 [0, 1, 5] r53_1) (.block 0 (.loop [0, 1, 5] b53_0))) (.seq (.region false 0 [4] r53_6) .ret)))⟩
/-! loop.example/g00461/impl.NumIn -/
def r54_0 : List VOper := [
  ⟨some 4, .move (.c (.d (.bool false))), none, []⟩]
def r54_1 : List VOper := [
  ⟨some 5, .move (.t 0), none, []⟩,
  ⟨some 6, .move (.t 1), none, []⟩,
  ⟨some 7, .call true (.c (.fn 55 [])) [.t 5, .t 6], none, []⟩,
  ⟨some 4, .move (.t 7), none, []⟩]
def v54 : VFn := ⟨2, [.tmp 4], (.seq (.region false 0 [0, 1] r54_0) (.seq (.region false 0 [4] r54_1) .ret))⟩
/-! slices.Contains[[]int,int] -/
def r55_0 : List VOper := [
  ⟨some 4, .move (.c (.d (.bool false))), none, []⟩]
def r55_1 : List VOper := [
  ⟨some 5, .move (.t 0), none, []⟩,
  ⟨some 6, .move (.t 1), none, []⟩,
  ⟨some 7, .call true (.c (.fn 56 [])) [.t 5, .t 6], none, []⟩,
  ⟨some 8, .bin .geq (.t 7) (.c (.d (.int .i64 0))), none, []⟩,
  ⟨some 4, .move (.t 8), none, []⟩]
def v55 : VFn := ⟨2, [.tmp 4], (.seq (.region false 0 [0, 1] r55_0) (.seq (.region false 0 [4] r55_1) .ret))⟩
/-! slices.Index[[]int,int] -/
def r56_0 : List VOper := [
  ⟨some 4, .move (.c (.d (.int .i64 0))), none, []⟩]
def r56_1 : List VOper := [
  ⟨some 6, .move (.t 0), none, []⟩,
  ⟨some 7, .len false (.t 6), none, []⟩,
  ⟨some 8, .move (.c (.d (.int .i64 0))), none, []⟩]
def r56_2 : List VOper := [
  ⟨some 9, .bin .lss (.t 8) (.t 7), none, []⟩]
def r56_3 : List VOper := [
  ⟨some 10, .move (.t 8), none, []⟩,
  ⟨some 5, .move (.t 10), none, []⟩]
def r56_4 : List VOper := [
  ⟨some 11, .move (.t 1), none, []⟩,
  ⟨some 12, .move (.t 0), none, []⟩,
  ⟨some 13, .move (.t 5), none, []⟩,
  ⟨some 14, .indexAddr 1 none (.t 12) (.t 13), none, []⟩,
  ⟨some 15, .load false 1 (.t 14), none, []⟩,
  ⟨some 16, .bin .eql (.t 11) (.t 15), none, []⟩]
def r56_5 : List VOper := [
  ⟨some 17, .move (.t 5), none, []⟩,
  ⟨some 4, .move (.t 17), none, []⟩]
def r56_6 : List VOper := [
  ⟨some 18, .bin .add (.t 8) (.c (.d (.int .i64 1))), none, []⟩,
  ⟨some 8, .move (.t 18), none, []⟩]
def b56_0 : VCode := (.seq (.region false 0 [0, 1, 7, 8, 9] r56_2) (.seq (.cond (.t 9) .skip (.exit 0)) (.seq (.block 1 (.seq (.region false 0 [0, 1, 5, 7, 8] r56_3) (.seq (.region false 0 [0, 1, 5, 7, 8, 16] r56_4) (.cond (.t 16) (.seq (.region false 0 [4] r56_5) .ret) .skip)))) (.region false 0 [0, 1, 7, 8] r56_6))))
def r56_7 : List VOper := [
  ⟨some 4, .move (.c (.d (.int .i64 (-1)))), none, []⟩]
def v56 : VFn := ⟨2, [.tmp 4], (.seq (.region false 0 [0, 1] r56_0) (.seq (.seq (.region false 0 [0, 1, 7, 8] r56_1) (.block 0 (.loop [0, 1, 7, 8] b56_0))) (.seq (.region false 0 [4] r56_7) .ret)))⟩
/-! loop.example/g00461/spec.NameOk -/
def r59_0 : List VOper := [
  ⟨some 2, .move (.c (.d (.bool false))), none, []⟩]
def r59_1 : List VOper := [
  ⟨some 3, .move (.c (.d (.int .i64 0))), none, []⟩]
def r59_2 : List VOper := [
  ⟨some 4, .move (.t 3), none, []⟩,
  ⟨some 5, .move (.t 0), none, []⟩,
  ⟨some 6, .len true (.t 5), none, []⟩,
  ⟨some 7, .bin .lss (.t 4) (.t 6), none, []⟩]
def r59_4 : List VOper := [
  ⟨some 10, .move (.t 0), none, []⟩,
  ⟨some 11, .move (.t 3), none, []⟩,
  ⟨some 12, .index (.t 10) (.t 11), none, []⟩,
  ⟨some 13, .bin .geq (.t 12) (.c (.d (.int .u8 97))), none, []⟩,
  ⟨some 14, .move (.t 13), none, []⟩,
  ⟨some 15, .move (.t 0), some (14, true), []⟩,
  ⟨some 16, .move (.t 3), some (14, true), []⟩,
  ⟨some 17, .index (.t 15) (.t 16), some (14, true), []⟩,
  ⟨some 18, .bin .leq (.t 17) (.c (.d (.int .u8 122))), some (14, true), []⟩,
  ⟨some 19, .pick (.t 14) (.t 18) (.c (.d (.bool false))), none, []⟩,
  ⟨some 20, .move (.t 19), none, []⟩,
  ⟨some 21, .move (.t 3), some (20, false), []⟩,
  ⟨some 22, .bin .gtr (.t 21) (.c (.d (.int .i64 0))), some (20, false), []⟩,
  ⟨some 23, .move (.t 22), some (20, false), []⟩,
  ⟨some 24, .move (.t 0), some (23, true), []⟩,
  ⟨some 25, .move (.t 3), some (23, true), []⟩,
  ⟨some 26, .index (.t 24) (.t 25), some (23, true), []⟩,
  ⟨some 27, .bin .geq (.t 26) (.c (.d (.int .u8 48))), some (23, true), []⟩,
  ⟨some 28, .pick (.t 23) (.t 27) (.c (.d (.bool false))), some (20, false), []⟩,
  ⟨some 29, .move (.t 28), some (20, false), []⟩,
  ⟨some 30, .move (.t 0), some (29, true), []⟩,
  ⟨some 31, .move (.t 3), some (29, true), []⟩,
  ⟨some 32, .index (.t 30) (.t 31), some (29, true), []⟩,
  ⟨some 33, .bin .leq (.t 32) (.c (.d (.int .u8 57))), some (29, true), []⟩,
  ⟨some 34, .pick (.t 29) (.t 33) (.c (.d (.bool false))), some (20, false), []⟩,
  ⟨some 35, .pick (.t 20) (.c (.d (.bool true))) (.t 34), none, []⟩,
  ⟨some 36, .not (.t 35), none, []⟩]
def r59_5 : List VOper := [
  ⟨some 2, .move (.c (.d (.bool false))), none, []⟩]
def r59_3 : List VOper := [
  ⟨some 8, .move (.t 3), none, []⟩,
  ⟨some 9, .bin .add (.t 8) (.c (.d (.int .i64 1))), none, []⟩,
  ⟨some 3, .move (.t 9), none, []⟩]
def b59_0 : VCode := (.seq (.seq (.region false 0 [0, 3, 7] r59_2) (.cond (.t 7) .skip (.exit 0))) (.seq (.block 1 (.seq (.region false 0 [0, 3, 36] r59_4) (.cond (.t 36) (.seq (.region false 0 [2] r59_5) .ret) .skip))) (.region false 0 [0, 3] r59_3)))
def r59_6 : List VOper := [
  ⟨some 37, .move (.t 0), none, []⟩,
  ⟨some 38, .len true (.t 37), none, []⟩,
  ⟨some 39, .call true (.c (.fn 31 [])) [.t 38, .c (.d (.int .i64 1)), .c (.d (.int .i64 8))], none, []⟩,
  ⟨some 2, .move (.t 39), none, []⟩]
def v59 : VFn := ⟨1, [.tmp 2], (.seq (.region false 0 [0] r59_0) (.seq (.seq (.region false 0 [0, 3] r59_1) (.block 0 (.loop [0, 3] b59_0))) (.seq (.region false 0 [2] r59_6) .ret)))⟩
/-! loop.example/g00461/impl.NameOk -/
def r60_0 : List VOper := [
  ⟨some 2, .move (.c (.d (.bool false))), none, []⟩]
def r60_1 : List VOper := [
  ⟨some 4, .move (.t 0), none, []⟩,
  ⟨some 5, .len true (.t 4), none, []⟩,
  ⟨some 6, .move (.c (.d (.int .i64 0))), none, []⟩]
def r60_2 : List VOper := [
  ⟨some 7, .bin .lss (.t 6) (.t 5), none, []⟩]
def r60_3 : List VOper := [
  ⟨some 8, .move (.t 6), none, []⟩,
  ⟨some 3, .move (.t 8), none, []⟩]
def r60_4 : List VOper := [
  ⟨some 9, .move (.t 0), none, []⟩,
  ⟨some 10, .move (.t 3), none, []⟩,
  ⟨some 11, .index (.t 9) (.t 10), none, []⟩,
  ⟨some 12, .call true (.c (.fn 61 [])) [.t 11], none, []⟩,
  ⟨some 13, .not (.t 12), none, []⟩,
  ⟨some 14, .move (.t 13), none, []⟩,
  ⟨some 15, .move (.t 0), some (14, true), []⟩,
  ⟨some 16, .move (.t 3), some (14, true), []⟩,
  ⟨some 17, .index (.t 15) (.t 16), some (14, true), []⟩,
  ⟨some 18, .call true (.c (.fn 62 [])) [.t 17], some (14, true), []⟩,
  ⟨some 19, .not (.t 18), some (14, true), []⟩,
  ⟨some 20, .pick (.t 14) (.t 19) (.c (.d (.bool false))), none, []⟩]
def r60_5 : List VOper := [
  ⟨some 2, .move (.c (.d (.bool false))), none, []⟩]
def r60_6 : List VOper := [
  ⟨some 21, .bin .add (.t 6) (.c (.d (.int .i64 1))), none, []⟩,
  ⟨some 6, .move (.t 21), none, []⟩]
def b60_0 : VCode := (.seq (.region false 0 [0, 5, 6, 7] r60_2) (.seq (.cond (.t 7) .skip (.exit 0)) (.seq (.block 1 (.seq (.region false 0 [0, 3, 5, 6] r60_3) (.seq (.region false 0 [0, 5, 6, 20] r60_4) (.cond (.t 20) (.seq (.region false 0 [2] r60_5) .ret) .skip)))) (.region false 0 [0, 5, 6] r60_6))))
def r60_7 : List VOper := [
  ⟨some 22, .move (.t 0), none, []⟩,
  ⟨some 23, .len true (.t 22), none, []⟩,
  ⟨some 24, .call true (.c (.fn 30 [])) [.t 23, .c (.d (.int .i64 1)), .c (.d (.int .i64 8))], none, []⟩,
  ⟨some 25, .move (.t 24), none, []⟩,
  ⟨some 26, .move (.t 0), some (25, true), []⟩,
  ⟨some 27, .index (.t 26) (.c (.d (.int .i64 0))), some (25, true), []⟩,
  ⟨some 28, .call true (.c (.fn 61 [])) [.t 27], some (25, true), []⟩,
  ⟨some 29, .pick (.t 25) (.t 28) (.c (.d (.bool false))), none, []⟩,
  ⟨some 2, .move (.t 29), none, []⟩]
def v60 : VFn := ⟨1, [.tmp 2], (.seq (.region false 0 [0] r60_0) (.seq (.seq (.region false 0 [0, 5, 6] r60_1) (.block 0 (.loop [0, 5, 6] b60_0))) (.seq (.region false 0 [2] r60_7) .ret)))⟩
/-! loop.example/g00461/impl.isSmall -/
def r61_0 : List VOper := [
  ⟨some 2, .move (.c (.d (.bool false))), none, []⟩]
def r61_1 : List VOper := [
  ⟨some 3, .move (.t 0), none, []⟩,
  ⟨some 4, .bin .geq (.t 3) (.c (.d (.int .u8 97))), none, []⟩,
  ⟨some 5, .move (.t 4), none, []⟩,
  ⟨some 6, .move (.t 0), some (5, true), []⟩,
  ⟨some 7, .bin .leq (.t 6) (.c (.d (.int .u8 122))), some (5, true), []⟩,
  ⟨some 8, .pick (.t 5) (.t 7) (.c (.d (.bool false))), none, []⟩,
  ⟨some 2, .move (.t 8), none, []⟩]
def v61 : VFn := ⟨1, [.tmp 2], (.seq (.region false 0 [0] r61_0) (.seq (.region false 0 [2] r61_1) .ret))⟩
/-! loop.example/g00461/impl.isDigit -/
def r62_0 : List VOper := [
  ⟨some 2, .move (.c (.d (.bool false))), none, []⟩]
def r62_1 : List VOper := [
  ⟨some 3, .move (.t 0), none, []⟩,
  ⟨some 4, .bin .geq (.t 3) (.c (.d (.int .u8 48))), none, []⟩,
  ⟨some 5, .move (.t 4), none, []⟩,
  ⟨some 6, .move (.t 0), some (5, true), []⟩,
  ⟨some 7, .bin .leq (.t 6) (.c (.d (.int .u8 57))), some (5, true), []⟩,
  ⟨some 8, .pick (.t 5) (.t 7) (.c (.d (.bool false))), none, []⟩,
  ⟨some 2, .move (.t 8), none, []⟩]
def v62 : VFn := ⟨1, [.tmp 2], (.seq (.region false 0 [0] r62_0) (.seq (.region false 0 [2] r62_1) .ret))⟩
/-! loop.example/g00461/impl.SigOk -/
def r77_0 : List VOper := [
  ⟨some 2, .move (.c (.d (.bool false))), none, []⟩]
def r77_1 : List VOper := [
  ⟨some 5, .move (.t 0), none, []⟩,
  ⟨some 6, .len false (.t 5), none, []⟩,
  ⟨some 7, .move (.c (.d (.int .i64 0))), none, []⟩]
def r77_2 : List VOper := [
  ⟨some 8, .bin .lss (.t 7) (.t 6), none, []⟩]
def r77_3 : List VOper := [
  ⟨some 9, .move (.t 7), none, []⟩,
  ⟨some 10, .indexAddr 3 none (.t 5) (.t 7), none, []⟩,
  ⟨some 11, .load true 3 (.t 10), none, []⟩,
  ⟨some 4, .alloc 0 [.str ⟨#[]⟩, .int .i64 0, .bool false], none, []⟩,
  ⟨some 3, .move (.t 9), none, []⟩,
  ⟨none, .store false 3 (.t 4) (.t 11), none, []⟩]
def r77_4 : List VOper := [
  ⟨some 12, .fieldAddr 0 (.t 4), none, []⟩,
  ⟨some 13, .load false 1 (.t 12), none, []⟩,
  ⟨some 14, .call true (.c (.fn 60 [])) [.t 13], none, []⟩,
  ⟨some 15, .not (.t 14), none, []⟩,
  ⟨some 16, .move (.t 15), none, []⟩,
  ⟨some 17, .move (.t 0), some (16, false), []⟩,
  ⟨some 18, .fieldAddr 0 (.t 4), some (16, false), []⟩,
  ⟨some 19, .load false 1 (.t 18), some (16, false), []⟩,
  ⟨some 20, .call true (.c (.fn 14 [])) [.t 17, .t 19], some (16, false), []⟩,
  ⟨some 21, .move (.t 3), some (16, false), []⟩,
  ⟨some 22, .bin .neq (.t 20) (.t 21), some (16, false), []⟩,
  ⟨some 23, .pick (.t 16) (.c (.d (.bool true))) (.t 22), none, []⟩,
  ⟨some 24, .move (.t 23), none, []⟩,
  ⟨some 25, .fieldAddr 1 (.t 4), some (24, false), []⟩,
  ⟨some 26, .load false 1 (.t 25), some (24, false), []⟩,
  ⟨some 27, .call true (.c (.fn 30 [])) [.t 26, .c (.d (.int .i64 0)), .c (.d (.int .i64 3))], some (24, false), []⟩,
  ⟨some 28, .not (.t 27), some (24, false), []⟩,
  ⟨some 29, .pick (.t 24) (.c (.d (.bool true))) (.t 28), none, []⟩,
  ⟨some 30, .move (.t 29), none, []⟩,
  ⟨some 31, .fieldAddr 2 (.t 4), some (30, false), []⟩,
  ⟨some 32, .load false 1 (.t 31), some (30, false), []⟩,
  ⟨some 33, .move (.t 32), some (30, false), []⟩,
  ⟨some 34, .fieldAddr 1 (.t 4), some (33, true), []⟩,
  ⟨some 35, .load false 1 (.t 34), some (33, true), []⟩,
  ⟨some 36, .bin .neq (.t 35) (.c (.d (.int .i64 2))), some (33, true), []⟩,
  ⟨some 37, .pick (.t 33) (.t 36) (.c (.d (.bool false))), some (30, false), []⟩,
  ⟨some 38, .pick (.t 30) (.c (.d (.bool true))) (.t 37), none, []⟩]
def r77_5 : List VOper := [
  ⟨some 2, .move (.c (.d (.bool false))), none, []⟩]
def r77_6 : List VOper := [
  ⟨some 39, .bin .add (.t 7) (.c (.d (.int .i64 1))), none, []⟩,
  ⟨some 7, .move (.t 39), none, []⟩]
def b77_0 : VCode := (.seq (.region false 0 [0, 5, 6, 7, 8] r77_2) (.seq (.cond (.t 8) .skip (.exit 0)) (.seq (.block 1 (.seq (.region false 1 [0, 3, 4, 5, 6, 7] r77_3) (.seq (.region false 0 [0, 5, 6, 7, 38] r77_4) (.cond (.t 38) (.seq (.region false 0 [2] r77_5) .ret) .skip)))) (.region false 0 [0, 5, 6, 7] r77_6))))
def r77_7 : List VOper := [
  ⟨some 40, .move (.t 0), none, []⟩,
  ⟨some 41, .len false (.t 40), none, []⟩,
  ⟨some 42, .call true (.c (.fn 30 [])) [.t 41, .c (.d (.int .i64 1)), .c (.d (.int .i64 8))], none, []⟩,
  ⟨some 43, .move (.t 42), none, []⟩,
  ⟨some 44, .move (.t 0), some (43, true), []⟩,
  ⟨some 45, .indexAddr 3 none (.t 44) (.c (.d (.int .i64 0))), some (43, true), []⟩,
  ⟨some 46, .fieldAddr 0 (.t 45), some (43, true), []⟩,
  ⟨some 47, .load false 1 (.t 46), some (43, true), []⟩,
  ⟨some 48, .bin .eql (.t 47) (.c (.d (.str ⟨#[116, 116]⟩))), some (43, true), []⟩,
  ⟨some 49, .pick (.t 43) (.t 48) (.c (.d (.bool false))), none, []⟩,
  ⟨some 50, .move (.t 49), none, []⟩,
  ⟨some 51, .move (.t 0), some (50, true), []⟩,
  ⟨some 52, .indexAddr 3 none (.t 51) (.c (.d (.int .i64 0))), some (50, true), []⟩,
  ⟨some 53, .fieldAddr 1 (.t 52), some (50, true), []⟩,
  ⟨some 54, .load false 1 (.t 53), some (50, true), []⟩,
  ⟨some 55, .bin .eql (.t 54) (.c (.d (.int .i64 0))), some (50, true), []⟩,
  ⟨some 56, .pick (.t 50) (.t 55) (.c (.d (.bool false))), none, []⟩,
  ⟨some 2, .move (.t 56), none, []⟩]
def v77 : VFn := ⟨1, [.tmp 2], (.seq (.region false 0 [0] r77_0) (.seq (.seq (.region false 0 [0, 5, 6, 7] r77_1) (.block 0 (.loop [0, 5, 6, 7] b77_0))) (.seq (.region false 0 [2] r77_7) .ret)))⟩
/-! loop.example/g00461/spec.SigOk -/
def r82_0 : List VOper := [
  ⟨some 2, .move (.c (.d (.bool false))), none, []⟩]
def r82_1 : List VOper := [
  ⟨some 3, .move (.c (.d (.int .i64 0))), none, []⟩]
def r82_2 : List VOper := [
  ⟨some 4, .move (.t 3), none, []⟩,
  ⟨some 5, .move (.t 0), none, []⟩,
  ⟨some 6, .len false (.t 5), none, []⟩,
  ⟨some 7, .bin .lss (.t 4) (.t 6), none, []⟩]
def r82_4 : List VOper := [
  ⟨some 10, .move (.t 0), none, []⟩,
  ⟨some 11, .move (.t 3), none, []⟩,
  ⟨some 12, .indexAddr 3 none (.t 10) (.t 11), none, []⟩,
  ⟨some 13, .fieldAddr 0 (.t 12), none, []⟩,
  ⟨some 14, .load false 1 (.t 13), none, []⟩,
  ⟨some 15, .call true (.c (.fn 59 [])) [.t 14], none, []⟩,
  ⟨some 16, .not (.t 15), none, []⟩,
  ⟨some 17, .move (.t 16), none, []⟩,
  ⟨some 18, .move (.t 0), some (17, false), []⟩,
  ⟨some 19, .move (.t 0), some (17, false), []⟩,
  ⟨some 20, .move (.t 3), some (17, false), []⟩,
  ⟨some 21, .indexAddr 3 none (.t 19) (.t 20), some (17, false), []⟩,
  ⟨some 22, .fieldAddr 0 (.t 21), some (17, false), []⟩,
  ⟨some 23, .load false 1 (.t 22), some (17, false), []⟩,
  ⟨some 24, .call true (.c (.fn 13 [])) [.t 18, .t 23], some (17, false), []⟩,
  ⟨some 25, .move (.t 3), some (17, false), []⟩,
  ⟨some 26, .bin .neq (.t 24) (.t 25), some (17, false), []⟩,
  ⟨some 27, .pick (.t 17) (.c (.d (.bool true))) (.t 26), none, []⟩,
  ⟨some 28, .move (.t 27), none, []⟩,
  ⟨some 29, .move (.t 0), some (28, false), []⟩,
  ⟨some 30, .move (.t 3), some (28, false), []⟩,
  ⟨some 31, .indexAddr 3 none (.t 29) (.t 30), some (28, false), []⟩,
  ⟨some 32, .fieldAddr 1 (.t 31), some (28, false), []⟩,
  ⟨some 33, .load false 1 (.t 32), some (28, false), []⟩,
  ⟨some 34, .call true (.c (.fn 31 [])) [.t 33, .c (.d (.int .i64 0)), .c (.d (.int .i64 3))], some (28, false), []⟩,
  ⟨some 35, .not (.t 34), some (28, false), []⟩,
  ⟨some 36, .pick (.t 28) (.c (.d (.bool true))) (.t 35), none, []⟩,
  ⟨some 37, .move (.t 36), none, []⟩,
  ⟨some 38, .move (.t 0), some (37, false), []⟩,
  ⟨some 39, .move (.t 3), some (37, false), []⟩,
  ⟨some 40, .indexAddr 3 none (.t 38) (.t 39), some (37, false), []⟩,
  ⟨some 41, .fieldAddr 2 (.t 40), some (37, false), []⟩,
  ⟨some 42, .load false 1 (.t 41), some (37, false), []⟩,
  ⟨some 43, .move (.t 42), some (37, false), []⟩,
  ⟨some 44, .move (.t 0), some (43, true), []⟩,
  ⟨some 45, .move (.t 3), some (43, true), []⟩,
  ⟨some 46, .indexAddr 3 none (.t 44) (.t 45), some (43, true), []⟩,
  ⟨some 47, .fieldAddr 1 (.t 46), some (43, true), []⟩,
  ⟨some 48, .load false 1 (.t 47), some (43, true), []⟩,
  ⟨some 49, .bin .neq (.t 48) (.c (.d (.int .i64 2))), some (43, true), []⟩,
  ⟨some 50, .pick (.t 43) (.t 49) (.c (.d (.bool false))), some (37, false), []⟩,
  ⟨some 51, .pick (.t 37) (.c (.d (.bool true))) (.t 50), none, []⟩]
def r82_5 : List VOper := [
  ⟨some 2, .move (.c (.d (.bool false))), none, []⟩]
def r82_3 : List VOper := [
  ⟨some 8, .move (.t 3), none, []⟩,
  ⟨some 9, .bin .add (.t 8) (.c (.d (.int .i64 1))), none, []⟩,
  ⟨some 3, .move (.t 9), none, []⟩]
def b82_0 : VCode := (.seq (.seq (.region false 0 [0, 3, 7] r82_2) (.cond (.t 7) .skip (.exit 0))) (.seq (.block 1 (.seq (.region false 0 [0, 3, 51] r82_4) (.cond (.t 51) (.seq (.region false 0 [2] r82_5) .ret) .skip))) (.region false 0 [0, 3] r82_3)))
def r82_6 : List VOper := [
  ⟨some 52, .move (.t 0), none, []⟩,
  ⟨some 53, .len false (.t 52), none, []⟩,
  ⟨some 54, .call true (.c (.fn 31 [])) [.t 53, .c (.d (.int .i64 1)), .c (.d (.int .i64 8))], none, []⟩,
  ⟨some 55, .move (.t 54), none, []⟩,
  ⟨some 56, .move (.t 0), some (55, true), []⟩,
  ⟨some 57, .indexAddr 3 none (.t 56) (.c (.d (.int .i64 0))), some (55, true), []⟩,
  ⟨some 58, .load true 3 (.t 57), some (55, true), []⟩,
  ⟨some 59, .build [.str ⟨#[]⟩, .int .i64 0, .bool false] [(0, 1, .c (.d (.str ⟨#[116, 116]⟩)))], some (55, true), []⟩,
  ⟨some 60, .eqAgg false [2, 0, 1] (.t 58) (.t 59), some (55, true), []⟩,
  ⟨some 61, .pick (.t 55) (.t 60) (.c (.d (.bool false))), none, []⟩,
  ⟨some 2, .move (.t 61), none, []⟩]
def v82 : VFn := ⟨1, [.tmp 2], (.seq (.region false 0 [0] r82_0) (.seq (.seq (.region false 0 [0, 3] r82_1) (.block 0 (.loop [0, 3] b82_0))) (.seq (.region false 0 [2] r82_6) .ret)))⟩
/-! loop.example/g00461/impl.NumAdd -/
def r106_0 : List VOper := [
  ⟨some 3, .box 0 (.t 1), none, []⟩,
  ⟨some 4, .move (.c (.d (.sl .nil []))), none, []⟩]
def r106_1 : List VOper := [
  ⟨some 7, .move (.t 0), none, []⟩,
  ⟨some 8, .call true (.c (.fn 107 [])) [.t 7], none, []⟩,
  ⟨some 5, .move (.t 8), none, []⟩]
def r106_2 : List VOper := [
  ⟨some 9, .move (.t 0), none, []⟩,
  ⟨some 10, .load false 1 (.t 3), none, []⟩,
  ⟨some 11, .call true (.c (.fn 54 [])) [.t 9, .t 10], none, []⟩]
def r106_3 : List VOper := [
  ⟨some 12, .move (.t 5), none, []⟩,
  ⟨some 4, .move (.t 12), none, []⟩]
def r106_4 : List VOper := [
  ⟨some 13, .move (.t 0), none, []⟩,
  ⟨some 14, .makeFunc 108 [.t 3], none, []⟩,
  ⟨some 15, .call false (.c (.fn 47 [])) [.t 13, .t 14], none, []⟩,
  ⟨some 6, .move (.t 15), none, []⟩]
def r106_5 : List VOper := [
  ⟨some 16, .move (.t 6), none, []⟩,
  ⟨some 17, .bin .lss (.t 16) (.c (.d (.int .i64 0))), none, []⟩]
def r106_6 : List VOper := [
  ⟨some 18, .move (.t 0), none, []⟩,
  ⟨some 19, .len false (.t 18), none, []⟩,
  ⟨some 6, .move (.t 19), none, []⟩]
def r106_7 : List VOper := [
  ⟨some 20, .move (.t 5), none, []⟩,
  ⟨some 21, .move (.t 6), none, []⟩,
  ⟨some 22, .load false 1 (.t 3), none, []⟩,
  ⟨some 23, .buildSlice 1 (.int .i64 0) 1 [(0, .t 22)], none, []⟩,
  ⟨some 24, .call true (.c (.fn 109 [])) [.t 20, .t 21, .t 23], none, []⟩,
  ⟨some 4, .move (.t 24), none, []⟩]
def v106 : VFn := ⟨2, [.tmp 4], (.seq (.region false 1 [0, 3] r106_0) (.seq (.region false 0 [0, 3, 5] r106_1) (.seq (.seq (.region false 0 [0, 3, 5, 11] r106_2) (.cond (.t 11) (.seq (.region false 0 [4] r106_3) .ret) .skip)) (.seq (.region false 0 [0, 3, 5, 6] r106_4) (.seq (.seq (.region false 0 [0, 3, 5, 6, 17] r106_5) (.cond (.t 17) (.region false 0 [3, 5, 6] r106_6) .skip)) (.seq (.region false 0 [4] r106_7) .ret))))))⟩
/-! slices.Clone[[]int,int] -/
def r107_0 : List VOper := [
  ⟨some 2, .move (.c (.d (.sl .nil []))), none, []⟩]
def r107_1 : List VOper := [
  ⟨some 3, .move (.t 0), none, []⟩,
  ⟨some 4, .eqNil false (.t 3), none, []⟩]
def r107_2 : List VOper := [
  ⟨some 2, .move (.c (.d (.sl .nil []))), none, []⟩]
def r107_3 : List VOper := [
  ⟨some 5, .buildSlice 1 (.int .i64 0) 0 [], none, []⟩,
  ⟨some 6, .move (.t 0), none, []⟩,
  ⟨some 7, .append 1 8 (.t 5) (.t 6), none, []⟩,
  ⟨some 2, .move (.t 7), none, []⟩]
def v107 : VFn := ⟨1, [.tmp 2], (.seq (.region false 0 [0] r107_0) (.seq (.seq (.region false 0 [0, 4] r107_1) (.cond (.t 4) (.seq (.region false 0 [2] r107_2) .ret) .skip)) (.seq (.region false 0 [2] r107_3) .ret)))⟩
/-! loop.example/g00461/impl.NumAdd$1 -/
def r108_0 : List VOper := [
  ⟨some 3, .move (.c (.d (.bool false))), none, []⟩]
def r108_1 : List VOper := [
  ⟨some 4, .move (.t 0), none, []⟩,
  ⟨some 5, .load false 1 (.t 1), none, []⟩,
  ⟨some 6, .bin .gtr (.t 4) (.t 5), none, []⟩,
  ⟨some 3, .move (.t 6), none, []⟩]
def v108 : VFn := ⟨2, [.tmp 3], (.seq (.region false 0 [0, 1] r108_0) (.seq (.region false 0 [3] r108_1) .ret))⟩
/-! loop.example/g00461/spec.NumAdd -/
def r112_0 : List VOper := [
  ⟨some 4, .move (.c (.d (.sl .nil []))), none, []⟩]
def r112_1 : List VOper := [
  ⟨some 7, .move (.t 0), none, []⟩,
  ⟨some 8, .move (.t 1), none, []⟩,
  ⟨some 9, .call true (.c (.fn 53 [])) [.t 7, .t 8], none, []⟩]
def r112_2 : List VOper := [
  ⟨some 10, .buildSlice 1 (.int .i64 0) 0 [], none, []⟩,
  ⟨some 11, .move (.t 0), none, []⟩,
  ⟨some 12, .append 1 8 (.t 10) (.t 11), none, []⟩,
  ⟨some 4, .move (.t 12), none, []⟩]
def r112_3 : List VOper := [
  ⟨some 5, .move (.c (.d (.int .i64 0))), none, []⟩]
def r112_4 : List VOper := [
  ⟨some 13, .move (.t 5), none, []⟩,
  ⟨some 14, .move (.t 0), none, []⟩,
  ⟨some 15, .len false (.t 14), none, []⟩,
  ⟨some 16, .bin .lss (.t 13) (.t 15), none, []⟩,
  ⟨some 17, .move (.t 16), none, []⟩,
  ⟨some 18, .move (.t 0), some (17, true), []⟩,
  ⟨some 19, .move (.t 5), some (17, true), []⟩,
  ⟨some 20, .indexAddr 1 none (.t 18) (.t 19), some (17, true), []⟩,
  ⟨some 21, .load false 1 (.t 20), some (17, true), []⟩,
  ⟨some 22, .move (.t 1), some (17, true), []⟩,
  ⟨some 23, .bin .lss (.t 21) (.t 22), some (17, true), []⟩,
  ⟨some 24, .pick (.t 17) (.t 23) (.c (.d (.bool false))), none, []⟩]
def r112_5 : List VOper := [
  ⟨some 25, .move (.t 5), none, []⟩,
  ⟨some 26, .bin .add (.t 25) (.c (.d (.int .i64 1))), none, []⟩,
  ⟨some 5, .move (.t 26), none, []⟩]
def b112_0 : VCode := (.seq (.seq (.region false 0 [0, 1, 5, 24] r112_4) (.cond (.t 24) .skip (.exit 0))) (.block 1 (.region false 0 [0, 1, 5] r112_5)))
def r112_6 : List VOper := [
  ⟨some 27, .buildSlice 1 (.int .i64 0) 0 [], none, []⟩,
  ⟨some 28, .move (.t 0), none, []⟩,
  ⟨some 29, .move (.t 5), none, []⟩,
  ⟨some 30, .slice false 1 (.t 28) none (some (.t 29)), none, []⟩,
  ⟨some 31, .append 1 8 (.t 27) (.t 30), none, []⟩,
  ⟨some 6, .move (.t 31), none, []⟩]
def r112_7 : List VOper := [
  ⟨some 32, .move (.t 6), none, []⟩,
  ⟨some 33, .move (.t 1), none, []⟩,
  ⟨some 34, .buildSlice 1 (.int .i64 0) 1 [(0, .t 33)], none, []⟩,
  ⟨some 35, .append 1 8 (.t 32) (.t 34), none, []⟩,
  ⟨some 6, .move (.t 35), none, []⟩]
def r112_8 : List VOper := [
  ⟨some 36, .move (.t 6), none, []⟩,
  ⟨some 37, .move (.t 0), none, []⟩,
  ⟨some 38, .move (.t 5), none, []⟩,
  ⟨some 39, .slice false 1 (.t 37) (some (.t 38)) none, none, []⟩,
  ⟨some 40, .append 1 8 (.t 36) (.t 39), none, []⟩,
  ⟨some 4, .move (.t 40), none, []⟩]
def v112 : VFn := ⟨2, [.tmp 4], (.seq (.region false 0 [0, 1] r112_0) (.seq (.seq (.region false 0 [0, 1, 9] r112_1) (.cond (.t 9) (.seq (.region false 0 [4] r112_2) .ret) .skip)) (.seq (.region false 0 [0, 1, 5] r112_3) (.seq (.block 0 (.loop [0, 1, 5] b112_0)) (.seq (.region false 0 [0, 1, 5, 6] r112_6) (.seq (.region false 0 [0, 5, 6] r112_7) (.seq (.region false 0 [4] r112_8) .ret)))))))⟩
/-! loop.example/g00461/spec.SigText -/
def r114_0 : List VOper := [
  ⟨some 2, .move (.c (.d (.str ⟨#[]⟩))), none, []⟩]
def r114_1 : List VOper := [
  ⟨some 3, .move (.c (.d (.str ⟨#[]⟩))), none, []⟩]
def r114_2 : List VOper := [
  ⟨some 4, .move (.c (.d (.int .i64 0))), none, []⟩]
def r114_3 : List VOper := [
  ⟨some 5, .move (.t 4), none, []⟩,
  ⟨some 6, .move (.t 0), none, []⟩,
  ⟨some 7, .len false (.t 6), none, []⟩,
  ⟨some 8, .bin .lss (.t 5) (.t 7), none, []⟩]
def r114_5 : List VOper := [
  ⟨some 11, .move (.t 4), none, []⟩,
  ⟨some 12, .bin .gtr (.t 11) (.c (.d (.int .i64 0))), none, []⟩]
def r114_6 : List VOper := [
  ⟨some 13, .move (.t 3), none, []⟩,
  ⟨some 14, .bin .add (.t 13) (.c (.d (.str ⟨#[32]⟩))), none, []⟩,
  ⟨some 3, .move (.t 14), none, []⟩]
def r114_7 : List VOper := [
  ⟨some 15, .move (.t 3), none, []⟩,
  ⟨some 16, .move (.t 0), none, []⟩,
  ⟨some 17, .move (.t 4), none, []⟩,
  ⟨some 18, .indexAddr 3 none (.t 16) (.t 17), none, [1, 2]⟩,
  ⟨some 19, .fieldAddr 0 (.t 18), none, [3]⟩,
  ⟨some 20, .load false 1 (.t 19), none, [4]⟩,
  ⟨some 21, .bin .add (.t 15) (.t 20), none, [0, 5]⟩,
  ⟨some 22, .bin .add (.t 21) (.c (.d (.str ⟨#[47]⟩))), none, [6]⟩,
  ⟨some 23, .move (.t 0), none, []⟩,
  ⟨some 24, .move (.t 4), none, []⟩,
  ⟨some 25, .indexAddr 3 none (.t 23) (.t 24), none, [8, 9]⟩,
  ⟨some 26, .fieldAddr 1 (.t 25), none, [10]⟩,
  ⟨some 27, .load false 1 (.t 26), none, [11]⟩,
  ⟨some 28, .call true (.c (.fn 39 [])) [.t 27], none, [12]⟩,
  ⟨some 29, .bin .add (.t 22) (.t 28), none, [7, 13]⟩,
  ⟨some 3, .move (.t 29), none, [0, 1, 2, 3, 4, 5, 6, 7, 8, 9, 10, 11, 12, 13, 14]⟩]
def r114_8 : List VOper := [
  ⟨some 30, .move (.t 0), none, []⟩,
  ⟨some 31, .move (.t 4), none, []⟩,
  ⟨some 32, .indexAddr 3 none (.t 30) (.t 31), none, []⟩,
  ⟨some 33, .fieldAddr 2 (.t 32), none, []⟩,
  ⟨some 34, .load false 1 (.t 33), none, []⟩]
def r114_9 : List VOper := [
  ⟨some 35, .move (.t 3), none, []⟩,
  ⟨some 36, .bin .add (.t 35) (.c (.d (.str ⟨#[42]⟩))), none, []⟩,
  ⟨some 3, .move (.t 36), none, []⟩]
def r114_4 : List VOper := [
  ⟨some 9, .move (.t 4), none, []⟩,
  ⟨some 10, .bin .add (.t 9) (.c (.d (.int .i64 1))), none, []⟩,
  ⟨some 4, .move (.t 10), none, []⟩]
def b114_0 : VCode := (.seq (.seq (.region false 0 [0, 3, 4, 8] r114_3) (.cond (.t 8) .skip (.exit 0))) (.seq (.block 1 (.seq (.seq (.region false 0 [0, 3, 4, 12] r114_5) (.cond (.t 12) (.region false 0 [0, 3, 4] r114_6) .skip)) (.seq (.region true 0 [0, 3, 4] r114_7) (.seq (.region false 0 [0, 3, 4, 34] r114_8) (.cond (.t 34) (.region false 0 [0, 3, 4] r114_9) .skip))))) (.region false 0 [0, 3, 4] r114_4)))
def r114_10 : List VOper := [
  ⟨some 37, .move (.t 3), none, []⟩,
  ⟨some 2, .move (.t 37), none, []⟩]
def v114 : VFn := ⟨1, [.tmp 2], (.seq (.region false 0 [0] r114_0) (.seq (.region false 0 [0, 3] r114_1) (.seq (.seq (.region false 0 [0, 3, 4] r114_2) (.block 0 (.loop [0, 3, 4] b114_0))) (.seq (.region false 0 [2] r114_10) .ret))))⟩
/-! loop.example/g00461/impl.SigText -/
def r115_0 : List VOper := [
  ⟨some 2, .move (.c (.d (.str ⟨#[]⟩))), none, []⟩]
def r115_1 : List VOper := [
  ⟨some 7, .buildSlice 1 (.str ⟨#[]⟩) 0 [], none, []⟩,
  ⟨some 3, .move (.t 7), none, []⟩]
def r115_2 : List VOper := [
  ⟨some 8, .move (.t 0), none, []⟩,
  ⟨some 9, .len false (.t 8), none, []⟩,
  ⟨some 10, .move (.c (.d (.int .i64 0))), none, []⟩]
def r115_3 : List VOper := [
  ⟨some 11, .bin .lss (.t 10) (.t 9), none, []⟩]
def r115_4 : List VOper := [
  ⟨some 12, .indexAddr 3 none (.t 8) (.t 10), none, []⟩,
  ⟨some 13, .load true 3 (.t 12), none, []⟩,
  ⟨some 5, .alloc 0 [.str ⟨#[]⟩, .int .i64 0, .bool false], none, []⟩,
  ⟨none, .store false 3 (.t 5) (.t 13), none, []⟩]
def r115_5 : List VOper := [
  ⟨some 14, .fieldAddr 0 (.t 5), none, []⟩,
  ⟨some 15, .load false 1 (.t 14), none, [0]⟩,
  ⟨some 16, .bin .add (.t 15) (.c (.d (.str ⟨#[47]⟩))), none, [1]⟩,
  ⟨some 17, .fieldAddr 1 (.t 5), none, []⟩,
  ⟨some 18, .load false 1 (.t 17), none, [3]⟩,
  ⟨some 19, .call true (.c (.fn 38 [])) [.t 18], none, [4]⟩,
  ⟨some 20, .bin .add (.t 16) (.t 19), none, [2, 5]⟩,
  ⟨some 6, .move (.t 20), none, [0, 1, 2, 3, 4, 5, 6]⟩]
def r115_6 : List VOper := [
  ⟨some 21, .fieldAddr 2 (.t 5), none, []⟩,
  ⟨some 22, .load false 1 (.t 21), none, []⟩]
def r115_7 : List VOper := [
  ⟨some 23, .move (.t 6), none, []⟩,
  ⟨some 24, .bin .add (.t 23) (.c (.d (.str ⟨#[42]⟩))), none, []⟩,
  ⟨some 6, .move (.t 24), none, []⟩]
def r115_8 : List VOper := [
  ⟨some 25, .move (.t 3), none, []⟩,
  ⟨some 26, .move (.t 6), none, []⟩,
  ⟨some 27, .buildSlice 1 (.str ⟨#[]⟩) 1 [(0, .t 26)], none, []⟩,
  ⟨some 28, .append 1 16 (.t 25) (.t 27), none, []⟩,
  ⟨some 3, .move (.t 28), none, []⟩]
def r115_9 : List VOper := [
  ⟨some 29, .bin .add (.t 10) (.c (.d (.int .i64 1))), none, []⟩,
  ⟨some 10, .move (.t 29), none, []⟩]
def b115_0 : VCode := (.seq (.region false 0 [3, 8, 9, 10, 11] r115_3) (.seq (.cond (.t 11) .skip (.exit 0)) (.seq (.block 1 (.seq (.region false 1 [3, 5, 8, 9, 10] r115_4) (.seq (.region true 0 [3, 5, 6, 8, 9, 10] r115_5) (.seq (.seq (.region false 0 [3, 6, 8, 9, 10, 22] r115_6) (.cond (.t 22) (.region false 0 [3, 6, 8, 9, 10] r115_7) .skip)) (.region false 0 [3, 8, 9, 10] r115_8))))) (.region false 0 [3, 8, 9, 10] r115_9))))
def r115_10 : List VOper := [
  ⟨some 30, .move (.t 3), none, []⟩,
  ⟨some 31, .call true (.c (.fn 93 [])) [.t 30, .c (.d (.str ⟨#[32]⟩))], none, []⟩,
  ⟨some 2, .move (.t 31), none, []⟩]
def v115 : VFn := ⟨1, [.tmp 2], (.seq (.region false 0 [0] r115_0) (.seq (.region false 0 [0, 3] r115_1) (.seq (.seq (.region false 0 [3, 8, 9, 10] r115_2) (.block 0 (.loop [3, 8, 9, 10] b115_0))) (.seq (.region false 0 [2] r115_10) .ret))))⟩
/-! loop.example/g00461/spec.NumsText -/
def r120_0 : List VOper := [
  ⟨some 2, .move (.c (.d (.str ⟨#[]⟩))), none, []⟩]
def r120_1 : List VOper := [
  ⟨some 3, .move (.c (.d (.str ⟨#[]⟩))), none, []⟩]
def r120_2 : List VOper := [
  ⟨some 4, .move (.c (.d (.int .i64 0))), none, []⟩]
def r120_3 : List VOper := [
  ⟨some 5, .move (.t 4), none, []⟩,
  ⟨some 6, .move (.t 0), none, []⟩,
  ⟨some 7, .len false (.t 6), none, []⟩,
  ⟨some 8, .bin .lss (.t 5) (.t 7), none, []⟩]
def r120_5 : List VOper := [
  ⟨some 11, .move (.t 4), none, []⟩,
  ⟨some 12, .bin .gtr (.t 11) (.c (.d (.int .i64 0))), none, []⟩]
def r120_6 : List VOper := [
  ⟨some 13, .move (.t 3), none, []⟩,
  ⟨some 14, .bin .add (.t 13) (.c (.d (.str ⟨#[44]⟩))), none, []⟩,
  ⟨some 3, .move (.t 14), none, []⟩]
def r120_7 : List VOper := [
  ⟨some 15, .move (.t 3), none, []⟩,
  ⟨some 16, .move (.t 0), none, []⟩,
  ⟨some 17, .move (.t 4), none, []⟩,
  ⟨some 18, .indexAddr 1 none (.t 16) (.t 17), none, []⟩,
  ⟨some 19, .load false 1 (.t 18), none, []⟩,
  ⟨some 20, .call true (.c (.fn 39 [])) [.t 19], none, []⟩,
  ⟨some 21, .bin .add (.t 15) (.t 20), none, []⟩,
  ⟨some 3, .move (.t 21), none, []⟩]
def r120_4 : List VOper := [
  ⟨some 9, .move (.t 4), none, []⟩,
  ⟨some 10, .bin .add (.t 9) (.c (.d (.int .i64 1))), none, []⟩,
  ⟨some 4, .move (.t 10), none, []⟩]
def b120_0 : VCode := (.seq (.seq (.region false 0 [0, 3, 4, 8] r120_3) (.cond (.t 8) .skip (.exit 0))) (.seq (.block 1 (.seq (.seq (.region false 0 [0, 3, 4, 12] r120_5) (.cond (.t 12) (.region false 0 [0, 3, 4] r120_6) .skip)) (.region false 0 [0, 3, 4] r120_7))) (.region false 0 [0, 3, 4] r120_4)))
def r120_8 : List VOper := [
  ⟨some 22, .move (.t 3), none, []⟩,
  ⟨some 2, .move (.t 22), none, []⟩]
def v120 : VFn := ⟨1, [.tmp 2], (.seq (.region false 0 [0] r120_0) (.seq (.region false 0 [0, 3] r120_1) (.seq (.seq (.region false 0 [0, 3, 4] r120_2) (.block 0 (.loop [0, 3, 4] b120_0))) (.seq (.region false 0 [2] r120_8) .ret))))⟩
/-! loop.example/g00461/impl.NumsText -/
def r121_0 : List VOper := [
  ⟨some 2, .move (.c (.d (.str ⟨#[]⟩))), none, []⟩]
def r121_1 : List VOper := [
  ⟨some 6, .buildSlice 1 (.str ⟨#[]⟩) 0 [], none, []⟩,
  ⟨some 3, .move (.t 6), none, []⟩]
def r121_2 : List VOper := [
  ⟨some 7, .move (.t 0), none, []⟩,
  ⟨some 8, .len false (.t 7), none, []⟩,
  ⟨some 9, .move (.c (.d (.int .i64 0))), none, []⟩]
def r121_3 : List VOper := [
  ⟨some 10, .bin .lss (.t 9) (.t 8), none, []⟩]
def r121_4 : List VOper := [
  ⟨some 11, .indexAddr 1 none (.t 7) (.t 9), none, []⟩,
  ⟨some 12, .load false 1 (.t 11), none, []⟩,
  ⟨some 5, .move (.t 12), none, []⟩]
def r121_5 : List VOper := [
  ⟨some 13, .move (.t 3), none, []⟩,
  ⟨some 14, .move (.t 5), none, []⟩,
  ⟨some 15, .call true (.c (.fn 38 [])) [.t 14], none, []⟩,
  ⟨some 16, .buildSlice 1 (.str ⟨#[]⟩) 1 [(0, .t 15)], none, []⟩,
  ⟨some 17, .append 1 16 (.t 13) (.t 16), none, []⟩,
  ⟨some 3, .move (.t 17), none, []⟩]
def r121_6 : List VOper := [
  ⟨some 18, .bin .add (.t 9) (.c (.d (.int .i64 1))), none, []⟩,
  ⟨some 9, .move (.t 18), none, []⟩]
def b121_0 : VCode := (.seq (.region false 0 [3, 7, 8, 9, 10] r121_3) (.seq (.cond (.t 10) .skip (.exit 0)) (.seq (.block 1 (.seq (.region false 0 [3, 5, 7, 8, 9] r121_4) (.region false 0 [3, 7, 8, 9] r121_5))) (.region false 0 [3, 7, 8, 9] r121_6))))
def r121_7 : List VOper := [
  ⟨some 19, .move (.t 3), none, []⟩,
  ⟨some 20, .call true (.c (.fn 93 [])) [.t 19, .c (.d (.str ⟨#[44]⟩))], none, []⟩,
  ⟨some 2, .move (.t 20), none, []⟩]
def v121 : VFn := ⟨1, [.tmp 2], (.seq (.region false 0 [0] r121_0) (.seq (.region false 0 [0, 3] r121_1) (.seq (.seq (.region false 0 [3, 7, 8, 9] r121_2) (.block 0 (.loop [3, 7, 8, 9] b121_0))) (.seq (.region false 0 [2] r121_7) .ret))))⟩
/-! loop.example/g00461/laws.big -/
def r133_0 : List VOper := [
  ⟨some 2, .move (.c (.d (.bool false))), none, []⟩]
def r133_1 : List VOper := [
  ⟨some 3, .move (.t 0), none, []⟩,
  ⟨some 4, .len false (.t 3), none, []⟩,
  ⟨some 5, .bin .gtr (.t 4) (.c (.d (.int .i64 1048576))), none, []⟩,
  ⟨some 2, .move (.t 5), none, []⟩]
def v133 : VFn := ⟨1, [.tmp 2], (.seq (.region false 0 [0] r133_0) (.seq (.region false 0 [2] r133_1) .ret))⟩
/-! loop.example/g00461/spec.l2Sig -/
def r155_0 : List VOper := [
  ⟨some 0, .move (.c (.d (.sl .nil []))), none, []⟩]
def r155_1 : List VOper := [
  ⟨some 1, .build [.str ⟨#[]⟩, .int .i64 0, .bool false] [(0, 1, .c (.d (.str ⟨#[116, 116]⟩)))], none, []⟩,
  ⟨some 2, .build [.str ⟨#[]⟩, .int .i64 0, .bool false] [(0, 1, .c (.d (.str ⟨#[97]⟩)))], none, []⟩,
  ⟨some 3, .build [.str ⟨#[]⟩, .int .i64 0, .bool false] [(0, 1, .c (.d (.str ⟨#[98]⟩)))], none, []⟩,
  ⟨some 4, .build [.str ⟨#[]⟩, .int .i64 0, .bool false] [(0, 1, .c (.d (.str ⟨#[103]⟩))), (1, 1, .c (.d (.int .i64 1)))], none, []⟩,
  ⟨some 5, .build [.str ⟨#[]⟩, .int .i64 0, .bool false] [(0, 1, .c (.d (.str ⟨#[104]⟩))), (1, 1, .c (.d (.int .i64 2)))], none, []⟩,
  ⟨some 6, .build [.str ⟨#[]⟩, .int .i64 0, .bool false] [(0, 1, .c (.d (.str ⟨#[102]⟩))), (1, 1, .c (.d (.int .i64 2))), (2, 1, .c (.d (.bool true)))], none, []⟩,
  ⟨some 7, .build [.str ⟨#[]⟩, .int .i64 0, .bool false] [(0, 1, .c (.d (.str ⟨#[107]⟩))), (1, 1, .c (.d (.int .i64 2))), (2, 1, .c (.d (.bool true)))], none, []⟩,
  ⟨some 8, .buildSlice 3 (.agg [.str ⟨#[]⟩, .int .i64 0, .bool false]) 7 [(0, .t 1), (1, .t 2), (2, .t 3), (3, .t 4), (4, .t 5), (5, .t 6), (6, .t 7)], none, []⟩,
  ⟨some 0, .move (.t 8), none, []⟩]
def v155 : VFn := ⟨0, [.tmp 0], (.seq (.region false 0 [] r155_0) (.seq (.region false 0 [0] r155_1) .ret))⟩
/-! loop.example/g00461/spec.l1New -/
def r156_0 : List VOper := [
  ⟨some 2, .move (.c .nilp), none, []⟩]
def r156_1 : List VOper := [
  ⟨some 5, .move (.t 0), none, []⟩,
  ⟨some 6, .len false (.t 5), none, []⟩,
  ⟨some 7, .bin .add (.c (.d (.int .i64 27064))) (.t 6), none, []⟩,
  ⟨some 3, .move (.t 7), none, []⟩]
def r156_2 : List VOper := [
  ⟨some 4, .move (.c (.d (.int .i64 0))), none, []⟩]
def r156_3 : List VOper := [
  ⟨some 8, .move (.t 4), none, []⟩,
  ⟨some 9, .move (.t 0), none, []⟩,
  ⟨some 10, .len false (.t 9), none, []⟩,
  ⟨some 11, .bin .lss (.t 8) (.t 10), none, []⟩,
  ⟨some 12, .move (.t 11), none, []⟩,
  ⟨some 13, .move (.t 4), some (12, true), []⟩,
  ⟨some 14, .bin .lss (.t 13) (.c (.d (.int .i64 4000))), some (12, true), []⟩,
  ⟨some 15, .pick (.t 12) (.t 14) (.c (.d (.bool false))), none, []⟩]
def r156_5 : List VOper := [
  ⟨some 18, .move (.t 3), none, []⟩,
  ⟨some 19, .bin .mul (.t 18) (.c (.d (.int .i64 131))), none, []⟩,
  ⟨some 20, .move (.t 0), none, []⟩,
  ⟨some 21, .move (.t 4), none, []⟩,
  ⟨some 22, .indexAddr 1 none (.t 20) (.t 21), none, []⟩,
  ⟨some 23, .load false 1 (.t 22), none, []⟩,
  ⟨some 24, .conv (.kind .i64) (.t 23), none, []⟩,
  ⟨some 25, .bin .add (.t 19) (.t 24), none, []⟩,
  ⟨some 26, .bin .add (.t 25) (.c (.d (.int .i64 7))), none, []⟩,
  ⟨some 27, .bin .and (.t 26) (.c (.d (.int .i64 1073741823))), none, []⟩,
  ⟨some 3, .move (.t 27), none, []⟩]
def r156_4 : List VOper := [
  ⟨some 16, .move (.t 4), none, []⟩,
  ⟨some 17, .bin .add (.t 16) (.c (.d (.int .i64 1))), none, []⟩,
  ⟨some 4, .move (.t 17), none, []⟩]
def b156_0 : VCode := (.seq (.seq (.region false 0 [0, 3, 4, 15] r156_3) (.cond (.t 15) .skip (.exit 0))) (.seq (.block 1 (.region false 0 [0, 3, 4] r156_5)) (.region false 0 [0, 3, 4] r156_4)))
def r156_6 : List VOper := [
  ⟨some 28, .move (.t 0), none, []⟩,
  ⟨some 29, .move (.t 3), none, []⟩,
  ⟨some 30, .build [.sl .nil [], .int .i64 0, .int .i64 0] [(0, 1, .t 28), (2, 1, .t 29)], none, []⟩,
  ⟨some 31, .box 0 (.t 30), none, []⟩,
  ⟨some 2, .move (.t 31), none, []⟩]
def v156 : VFn := ⟨1, [.tmp 2], (.seq (.region false 0 [0] r156_0) (.seq (.region false 0 [0, 3] r156_1) (.seq (.seq (.region false 0 [0, 3, 4] r156_2) (.block 0 (.loop [0, 3, 4] b156_0))) (.seq (.region false 1 [2] r156_6) .ret))))⟩
/-! loop.example/g00461/spec.l1Below -/
def r159_0 : List VOper := [
  ⟨some 4, .move (.c (.d (.int .i64 0))), none, []⟩]
def r159_1 : List VOper := [
  ⟨some 9, .move (.t 1), none, []⟩,
  ⟨some 10, .bin .leq (.t 9) (.c (.d (.int .i64 0))), none, []⟩]
def r159_2 : List VOper := [
  ⟨some 4, .move (.c (.d (.int .i64 0))), none, []⟩]
def r159_3 : List VOper := [
  ⟨some 11, .move (.t 1), none, []⟩,
  ⟨some 12, .bin .leq (.t 11) (.c (.d (.int .i64 256))), none, []⟩]
def r159_4 : List VOper := [
  ⟨some 13, .move (.t 0), none, []⟩,
  ⟨some 14, .call false (.c (.fn 165 [])) [.t 13], none, []⟩,
  ⟨some 15, .move (.t 1), none, []⟩,
  ⟨some 16, .bin .rem (.t 14) (.t 15), none, []⟩,
  ⟨some 4, .move (.t 16), none, []⟩]
def r159_5 : List VOper := [
  ⟨some 17, .move (.t 0), none, []⟩,
  ⟨some 18, .call false (.c (.fn 165 [])) [.t 17], none, []⟩,
  ⟨some 5, .move (.t 18), none, []⟩]
def r159_6 : List VOper := [
  ⟨some 19, .move (.t 0), none, []⟩,
  ⟨some 20, .call false (.c (.fn 165 [])) [.t 19], none, []⟩,
  ⟨some 6, .move (.t 20), none, []⟩]
def r159_7 : List VOper := [
  ⟨some 21, .move (.t 0), none, []⟩,
  ⟨some 22, .call false (.c (.fn 165 [])) [.t 21], none, []⟩,
  ⟨some 7, .move (.t 22), none, []⟩]
def r159_8 : List VOper := [
  ⟨some 23, .move (.t 0), none, []⟩,
  ⟨some 24, .call false (.c (.fn 165 [])) [.t 23], none, []⟩,
  ⟨some 8, .move (.t 24), none, []⟩]
def r159_9 : List VOper := [
  ⟨some 25, .move (.t 5), none, []⟩,
  ⟨some 26, .bin .mul (.t 25) (.c (.d (.int .i64 16777216))), none, []⟩,
  ⟨some 27, .move (.t 6), none, []⟩,
  ⟨some 28, .bin .mul (.t 27) (.c (.d (.int .i64 65536))), none, []⟩,
  ⟨some 29, .bin .add (.t 26) (.t 28), none, []⟩,
  ⟨some 30, .move (.t 7), none, []⟩,
  ⟨some 31, .bin .mul (.t 30) (.c (.d (.int .i64 256))), none, []⟩,
  ⟨some 32, .bin .add (.t 29) (.t 31), none, []⟩,
  ⟨some 33, .move (.t 8), none, []⟩,
  ⟨some 34, .bin .add (.t 32) (.t 33), none, []⟩,
  ⟨some 35, .move (.t 1), none, []⟩,
  ⟨some 36, .bin .rem (.t 34) (.t 35), none, []⟩,
  ⟨some 4, .move (.t 36), none, []⟩]
def v159 : VFn := ⟨2, [.tmp 4], (.seq (.region false 0 [0, 1] r159_0) (.seq (.seq (.region false 0 [0, 1, 10] r159_1) (.cond (.t 10) (.seq (.region false 0 [4] r159_2) .ret) .skip)) (.seq (.seq (.region false 0 [0, 1, 12] r159_3) (.cond (.t 12) (.seq (.region false 0 [4] r159_4) .ret) .skip)) (.seq (.region false 0 [0, 1, 5] r159_5) (.seq (.region false 0 [0, 1, 5, 6] r159_6) (.seq (.region false 0 [0, 1, 5, 6, 7] r159_7) (.seq (.region false 0 [1, 5, 6, 7, 8] r159_8) (.seq (.region false 0 [4] r159_9) .ret))))))))⟩
/-! loop.example/g00461/spec.l1PickInt -/
def r160_0 : List VOper := [
  ⟨some 4, .move (.c (.d (.int .i64 0))), none, []⟩]
def r160_1 : List VOper := [
  ⟨some 5, .move (.t 1), none, []⟩,
  ⟨some 6, .move (.t 0), none, []⟩,
  ⟨some 7, .move (.t 1), none, []⟩,
  ⟨some 8, .len false (.t 7), none, []⟩,
  ⟨some 9, .call false (.c (.fn 159 [])) [.t 6, .t 8], none, []⟩,
  ⟨some 10, .indexAddr 1 none (.t 5) (.t 9), none, []⟩,
  ⟨some 11, .load false 1 (.t 10), none, []⟩,
  ⟨some 4, .move (.t 11), none, []⟩]
def v160 : VFn := ⟨2, [.tmp 4], (.seq (.region false 0 [0, 1] r160_0) (.seq (.region false 0 [4] r160_1) .ret))⟩
/-! loop.example/g00461/spec.l1Once -/
def r162_0 : List VOper := [
  ⟨some 4, .move (.c (.d (.bool false))), none, []⟩]
def r162_1 : List VOper := [
  ⟨some 5, .move (.t 0), none, []⟩,
  ⟨some 6, .move (.t 1), none, []⟩,
  ⟨some 7, .call false (.c (.fn 159 [])) [.t 5, .t 6], none, []⟩,
  ⟨some 8, .bin .eql (.t 7) (.c (.d (.int .i64 0))), none, []⟩,
  ⟨some 4, .move (.t 8), none, []⟩]
def v162 : VFn := ⟨2, [.tmp 4], (.seq (.region false 0 [0, 1] r162_0) (.seq (.region false 0 [4] r162_1) .ret))⟩
/-! loop.example/g00461/spec.l1Byte -/
def r165_0 : List VOper := [
  ⟨some 2, .move (.c (.d (.int .i64 0))), none, []⟩]
def r165_1 : List VOper := [
  ⟨some 4, .move (.t 0), none, []⟩,
  ⟨some 5, .move (.t 0), none, []⟩,
  ⟨some 6, .nilCheck (.t 5), none, []⟩,
  ⟨some 7, .fieldAddr 2 (.t 6), none, []⟩,
  ⟨some 8, .load false 1 (.t 7), none, []⟩,
  ⟨some 9, .bin .mul (.t 8) (.c (.d (.int .i64 6364136223846793005))), none, []⟩,
  ⟨some 10, .bin .add (.t 9) (.c (.d (.int .i64 1442695040888963407))), none, []⟩,
  ⟨some 11, .nilCheck (.t 4), none, []⟩,
  ⟨some 12, .fieldAddr 2 (.t 11), none, []⟩,
  ⟨none, .store false 1 (.t 12) (.t 10), none, []⟩]
def r165_2 : List VOper := [
  ⟨some 13, .move (.t 0), none, []⟩,
  ⟨some 14, .nilCheck (.t 13), none, [0]⟩,
  ⟨some 15, .fieldAddr 2 (.t 14), none, [1]⟩,
  ⟨some 16, .load false 1 (.t 15), none, [2]⟩,
  ⟨some 17, .bin .shr (.t 16) (.c (.d (.int .u64 33))), none, [3]⟩,
  ⟨some 18, .move (.t 0), none, []⟩,
  ⟨some 19, .nilCheck (.t 18), none, [5]⟩,
  ⟨some 20, .fieldAddr 2 (.t 19), none, [6]⟩,
  ⟨some 21, .load false 1 (.t 20), none, [7]⟩,
  ⟨some 22, .bin .shr (.t 21) (.c (.d (.int .u64 45))), none, [8]⟩,
  ⟨some 23, .bin .xor (.t 17) (.t 22), none, [4, 9]⟩,
  ⟨some 24, .bin .and (.t 23) (.c (.d (.int .i64 255))), none, [10]⟩,
  ⟨some 3, .move (.t 24), none, [0, 1, 2, 3, 4, 5, 6, 7, 8, 9, 10, 11]⟩]
def r165_3 : List VOper := [
  ⟨some 25, .move (.t 0), none, []⟩,
  ⟨some 26, .nilCheck (.t 25), none, [0]⟩,
  ⟨some 27, .fieldAddr 1 (.t 26), none, [1]⟩,
  ⟨some 28, .load false 1 (.t 27), none, [2]⟩,
  ⟨some 29, .move (.t 0), none, []⟩,
  ⟨some 30, .nilCheck (.t 29), none, [4]⟩,
  ⟨some 31, .fieldAddr 0 (.t 30), none, [5]⟩,
  ⟨some 32, .load false 1 (.t 31), none, [6]⟩,
  ⟨some 33, .len false (.t 32), none, [7]⟩,
  ⟨some 34, .bin .lss (.t 28) (.t 33), none, [3, 8]⟩]
def r165_4 : List VOper := [
  ⟨some 35, .move (.t 3), none, []⟩,
  ⟨some 36, .move (.t 0), none, []⟩,
  ⟨some 37, .nilCheck (.t 36), none, [1]⟩,
  ⟨some 38, .fieldAddr 0 (.t 37), none, [2]⟩,
  ⟨some 39, .load false 1 (.t 38), none, [3]⟩,
  ⟨some 40, .move (.t 0), none, []⟩,
  ⟨some 41, .nilCheck (.t 40), none, [5]⟩,
  ⟨some 42, .fieldAddr 1 (.t 41), none, [6]⟩,
  ⟨some 43, .load false 1 (.t 42), none, [7]⟩,
  ⟨some 44, .indexAddr 1 none (.t 39) (.t 43), none, [4, 8]⟩,
  ⟨some 45, .load false 1 (.t 44), none, [9]⟩,
  ⟨some 46, .conv (.kind .i64) (.t 45), none, [10]⟩,
  ⟨some 47, .bin .add (.t 35) (.t 46), none, [0, 11]⟩,
  ⟨some 48, .bin .and (.t 47) (.c (.d (.int .i64 255))), none, [12]⟩,
  ⟨some 3, .move (.t 48), none, [0, 1, 2, 3, 4, 5, 6, 7, 8, 9, 10, 11, 12, 13]⟩]
def r165_5 : List VOper := [
  ⟨some 49, .move (.t 0), none, []⟩,
  ⟨some 50, .move (.t 0), none, []⟩,
  ⟨some 51, .nilCheck (.t 50), none, []⟩,
  ⟨some 52, .fieldAddr 1 (.t 51), none, []⟩,
  ⟨some 53, .load false 1 (.t 52), none, []⟩,
  ⟨some 54, .bin .add (.t 53) (.c (.d (.int .i64 1))), none, []⟩,
  ⟨some 55, .nilCheck (.t 49), none, []⟩,
  ⟨some 56, .fieldAddr 1 (.t 55), none, []⟩,
  ⟨none, .store false 1 (.t 56) (.t 54), none, []⟩]
def r165_6 : List VOper := [
  ⟨some 57, .move (.t 3), none, []⟩,
  ⟨some 2, .move (.t 57), none, []⟩]
def v165 : VFn := ⟨1, [.tmp 2], (.seq (.region false 0 [0] r165_0) (.seq (.region false 0 [0] r165_1) (.seq (.region true 0 [0, 3] r165_2) (.seq (.seq (.region true 0 [0, 3, 34] r165_3) (.cond (.t 34) (.seq (.region true 0 [0, 3] r165_4) (.region false 0 [3] r165_5)) .skip)) (.seq (.region false 0 [2] r165_6) .ret)))))⟩
/-! loop.example/g00461/laws.sameInts -/
def r188_0 : List VOper := [
  ⟨some 4, .move (.c (.d (.bool false))), none, []⟩]
def r188_1 : List VOper := [
  ⟨some 6, .move (.t 0), none, []⟩,
  ⟨some 7, .len false (.t 6), none, []⟩,
  ⟨some 8, .move (.t 1), none, []⟩,
  ⟨some 9, .len false (.t 8), none, []⟩,
  ⟨some 10, .bin .neq (.t 7) (.t 9), none, []⟩]
def r188_2 : List VOper := [
  ⟨some 4, .move (.c (.d (.bool false))), none, []⟩]
def r188_3 : List VOper := [
  ⟨some 5, .move (.c (.d (.int .i64 0))), none, []⟩]
def r188_4 : List VOper := [
  ⟨some 11, .move (.t 5), none, []⟩,
  ⟨some 12, .move (.t 0), none, []⟩,
  ⟨some 13, .len false (.t 12), none, []⟩,
  ⟨some 14, .bin .lss (.t 11) (.t 13), none, []⟩]
def r188_6 : List VOper := [
  ⟨some 17, .move (.t 0), none, []⟩,
  ⟨some 18, .move (.t 5), none, []⟩,
  ⟨some 19, .indexAddr 1 none (.t 17) (.t 18), none, [0, 1]⟩,
  ⟨some 20, .load false 1 (.t 19), none, [2]⟩,
  ⟨some 21, .move (.t 1), none, []⟩,
  ⟨some 22, .move (.t 5), none, []⟩,
  ⟨some 23, .indexAddr 1 none (.t 21) (.t 22), none, [4, 5]⟩,
  ⟨some 24, .load false 1 (.t 23), none, [6]⟩,
  ⟨some 25, .bin .neq (.t 20) (.t 24), none, [3, 7]⟩]
def r188_7 : List VOper := [
  ⟨some 4, .move (.c (.d (.bool false))), none, []⟩]
def r188_5 : List VOper := [
  ⟨some 15, .move (.t 5), none, []⟩,
  ⟨some 16, .bin .add (.t 15) (.c (.d (.int .i64 1))), none, []⟩,
  ⟨some 5, .move (.t 16), none, []⟩]
def b188_0 : VCode := (.seq (.seq (.region false 0 [0, 1, 5, 14] r188_4) (.cond (.t 14) .skip (.exit 0))) (.seq (.block 1 (.seq (.region true 0 [0, 1, 5, 25] r188_6) (.cond (.t 25) (.seq (.region false 0 [4] r188_7) .ret) .skip))) (.region false 0 [0, 1, 5] r188_5)))
def r188_8 : List VOper := [
  ⟨some 4, .move (.c (.d (.bool true))), none, []⟩]
def v188 : VFn := ⟨2, [.tmp 4], (.seq (.region false 0 [0, 1] r188_0) (.seq (.seq (.region false 0 [0, 1, 10] r188_1) (.cond (.t 10) (.seq (.region false 0 [4] r188_2) .ret) .skip)) (.seq (.seq (.region false 0 [0, 1, 5] r188_3) (.block 0 (.loop [0, 1, 5] b188_0))) (.seq (.region false 0 [4] r188_8) .ret))))⟩
/-! loop.example/g00461/spec.l2Draw -/
def r195_0 : List VOper := [
  ⟨some 2, .move (.c (.d (.sl .nil []))), none, []⟩]
def r195_1 : List VOper := [
  ⟨some 4, .call true (.c (.fn 155 [])) [], none, []⟩,
  ⟨some 3, .move (.t 4), none, []⟩]
def r195_2 : List VOper := [
  ⟨some 5, .move (.t 0), none, []⟩,
  ⟨some 6, .call false (.c (.fn 159 [])) [.t 5, .c (.d (.int .i64 10))], none, []⟩]
def r195_3 : List VOper := [
  ⟨some 8, .bin .eql (.t 6) (.c (.d (.int .i64 0))), none, []⟩,
  ⟨some 7, .move (.t 8), none, []⟩]
def r195_4 : List VOper := [
  ⟨some 9, .move (.t 3), none, []⟩,
  ⟨some 10, .move (.t 0), none, []⟩,
  ⟨some 11, .buildSlice 1 (.str ⟨#[]⟩) 6 [(0, .c (.d (.str ⟨#[]⟩))), (1, .c (.d (.str ⟨#[65]⟩))), (2, .c (.d (.str ⟨#[116, 116]⟩))), (3, .c (.d (.str ⟨#[97, 98, 99, 100, 101, 102, 103, 104, 105]⟩))), (4, .c (.d (.str ⟨#[49, 97]⟩))), (5, .c (.d (.str ⟨#[97, 49]⟩)))], none, []⟩,
  ⟨some 12, .call false (.c (.fn 196 [])) [.t 10, .t 11], none, []⟩,
  ⟨some 13, .indexAddr 3 none (.t 9) (.c (.d (.int .i64 1))), none, []⟩,
  ⟨some 14, .fieldAddr 0 (.t 13), none, []⟩,
  ⟨none, .store false 1 (.t 14) (.t 12), none, []⟩]
def r195_5 : List VOper := [
  ⟨some 16, .bin .eql (.t 6) (.c (.d (.int .i64 1))), none, []⟩,
  ⟨some 15, .move (.t 16), none, []⟩]
def r195_6 : List VOper := [
  ⟨some 17, .move (.t 3), none, []⟩,
  ⟨some 18, .move (.t 0), none, []⟩,
  ⟨some 19, .buildSlice 1 (.int .i64 0) 3 [(0, .c (.d (.int .i64 (-1)))), (1, .c (.d (.int .i64 3))), (2, .c (.d (.int .i64 4)))], none, []⟩,
  ⟨some 20, .call false (.c (.fn 160 [])) [.t 18, .t 19], none, []⟩,
  ⟨some 21, .indexAddr 3 none (.t 17) (.c (.d (.int .i64 2))), none, []⟩,
  ⟨some 22, .fieldAddr 1 (.t 21), none, []⟩,
  ⟨none, .store false 1 (.t 22) (.t 20), none, []⟩]
def r195_7 : List VOper := [
  ⟨some 24, .bin .eql (.t 6) (.c (.d (.int .i64 2))), none, []⟩,
  ⟨some 23, .move (.t 24), none, []⟩]
def r195_8 : List VOper := [
  ⟨some 25, .move (.t 3), none, []⟩,
  ⟨some 26, .indexAddr 3 none (.t 25) (.c (.d (.int .i64 3))), none, []⟩,
  ⟨some 27, .fieldAddr 2 (.t 26), none, []⟩,
  ⟨none, .store false 1 (.t 27) (.c (.d (.bool true))), none, []⟩]
def r195_9 : List VOper := [
  ⟨some 29, .bin .eql (.t 6) (.c (.d (.int .i64 3))), none, []⟩,
  ⟨some 28, .move (.t 29), none, []⟩]
def r195_10 : List VOper := [
  ⟨some 30, .move (.t 3), none, []⟩,
  ⟨some 31, .slice false 3 (.t 30) (some (.c (.d (.int .i64 1)))) none, none, []⟩,
  ⟨some 2, .move (.t 31), none, []⟩]
def r195_11 : List VOper := [
  ⟨some 33, .bin .eql (.t 6) (.c (.d (.int .i64 4))), none, []⟩,
  ⟨some 32, .move (.t 33), none, []⟩]
def r195_12 : List VOper := [
  ⟨some 34, .move (.t 3), none, []⟩,
  ⟨some 35, .move (.t 0), none, []⟩,
  ⟨some 36, .call false (.c (.fn 159 [])) [.t 35, .c (.d (.int .i64 4))], none, []⟩,
  ⟨some 37, .slice false 3 (.t 34) none (some (.t 36)), none, []⟩,
  ⟨some 2, .move (.t 37), none, []⟩]
def r195_13 : List VOper := [
  ⟨some 39, .bin .eql (.t 6) (.c (.d (.int .i64 5))), none, []⟩,
  ⟨some 38, .move (.t 39), none, []⟩]
def r195_14 : List VOper := [
  ⟨some 40, .move (.t 3), none, []⟩,
  ⟨some 41, .build [.str ⟨#[]⟩, .int .i64 0, .bool false] [(0, 1, .c (.d (.str ⟨#[120, 49]⟩)))], none, []⟩,
  ⟨some 42, .move (.t 0), none, []⟩,
  ⟨some 43, .buildSlice 1 (.str ⟨#[]⟩) 2 [(0, .c (.d (.str ⟨#[120, 50]⟩))), (1, .c (.d (.str ⟨#[120, 49]⟩)))], none, []⟩,
  ⟨some 44, .call false (.c (.fn 196 [])) [.t 42, .t 43], none, []⟩,
  ⟨some 45, .build [.str ⟨#[]⟩, .int .i64 0, .bool false] [(0, 1, .t 44)], none, []⟩,
  ⟨some 46, .buildSlice 3 (.agg [.str ⟨#[]⟩, .int .i64 0, .bool false]) 2 [(0, .t 41), (1, .t 45)], none, []⟩,
  ⟨some 47, .append 3 32 (.t 40) (.t 46), none, []⟩,
  ⟨some 2, .move (.t 47), none, []⟩]
def r195_15 : List VOper := [
  ⟨some 48, .move (.t 3), none, []⟩,
  ⟨some 2, .move (.t 48), none, []⟩]
def v195 : VFn := ⟨1, [.tmp 2], (.seq (.region false 0 [0] r195_0) (.seq (.region false 0 [0, 3] r195_1) (.seq (.seq (.region false 0 [0, 3, 6] r195_2) (.block 0 (.seq (.region false 0 [0, 3, 6, 7] r195_3) (.cond (.t 7) (.region false 0 [3] r195_4) (.seq (.region false 0 [0, 3, 6, 15] r195_5) (.cond (.t 15) (.region false 0 [3] r195_6) (.seq (.region false 0 [0, 3, 6, 23] r195_7) (.cond (.t 23) (.region false 0 [3] r195_8) (.seq (.region false 0 [0, 3, 6, 28] r195_9) (.cond (.t 28) (.seq (.region false 0 [2] r195_10) .ret) (.seq (.region false 0 [0, 3, 6, 32] r195_11) (.cond (.t 32) (.seq (.region false 0 [2] r195_12) .ret) (.seq (.region false 0 [0, 3, 38] r195_13) (.cond (.t 38) (.seq (.region false 0 [2] r195_14) .ret) .skip)))))))))))))) (.seq (.region false 0 [2] r195_15) .ret))))⟩
/-! loop.example/g00461/spec.l1Pick -/
def r196_0 : List VOper := [
  ⟨some 4, .move (.c (.d (.str ⟨#[]⟩))), none, []⟩]
def r196_1 : List VOper := [
  ⟨some 5, .move (.t 1), none, []⟩,
  ⟨some 6, .move (.t 0), none, []⟩,
  ⟨some 7, .move (.t 1), none, []⟩,
  ⟨some 8, .len false (.t 7), none, []⟩,
  ⟨some 9, .call false (.c (.fn 159 [])) [.t 6, .t 8], none, []⟩,
  ⟨some 10, .indexAddr 1 none (.t 5) (.t 9), none, []⟩,
  ⟨some 11, .load false 1 (.t 10), none, []⟩,
  ⟨some 4, .move (.t 11), none, []⟩]
def v196 : VFn := ⟨2, [.tmp 4], (.seq (.region false 0 [0, 1] r196_0) (.seq (.region false 0 [4] r196_1) .ret))⟩
/-! loop.example/g00461/laws.FnNumbers -/
def r198_0 : List VOper := [
  ⟨some 2, .move (.c (.d (.bool false))), none, []⟩]
def r198_1 : List VOper := [
  ⟨some 13, .move (.t 0), none, []⟩,
  ⟨some 14, .call true (.c (.fn 133 [])) [.t 13], none, []⟩]
def r198_2 : List VOper := [
  ⟨some 2, .move (.c (.d (.bool true))), none, []⟩]
def r198_3 : List VOper := [
  ⟨some 15, .move (.t 0), none, []⟩,
  ⟨some 16, .call true (.c (.fn 199 [])) [.t 15], none, []⟩,
  ⟨some 3, .move (.t 16), none, []⟩]
def r198_4 : List VOper := [
  ⟨some 17, .move (.t 0), none, []⟩,
  ⟨some 18, .call true (.c (.fn 200 [])) [.t 17], none, []⟩,
  ⟨some 4, .move (.t 18), none, []⟩]
def r198_5 : List VOper := [
  ⟨some 20, .move (.t 4), none, []⟩,
  ⟨some 21, .call true (.c (.fn 37 [])) [.t 20], none, []⟩,
  ⟨some 19, .move (.t 21), none, []⟩,
  ⟨some 22, .extract (.t 19) 0, none, []⟩,
  ⟨some 23, .extract (.t 19) 1, none, []⟩,
  ⟨some 5, .move (.t 22), none, []⟩,
  ⟨some 6, .move (.t 23), none, []⟩]
def r198_6 : List VOper := [
  ⟨some 25, .move (.t 4), none, []⟩,
  ⟨some 26, .call true (.c (.fn 36 [])) [.t 25], none, []⟩,
  ⟨some 24, .move (.t 26), none, []⟩,
  ⟨some 27, .extract (.t 24) 0, none, []⟩,
  ⟨some 28, .extract (.t 24) 1, none, []⟩,
  ⟨some 7, .move (.t 27), none, []⟩,
  ⟨some 8, .move (.t 28), none, []⟩]
def r198_7 : List VOper := [
  ⟨some 30, .move (.t 0), none, []⟩,
  ⟨some 31, .call true (.c (.fn 201 [])) [.t 30], none, []⟩,
  ⟨some 29, .move (.t 31), none, []⟩,
  ⟨some 32, .extract (.t 29) 0, none, []⟩,
  ⟨some 33, .extract (.t 29) 1, none, []⟩,
  ⟨some 9, .move (.t 32), none, []⟩,
  ⟨some 10, .move (.t 33), none, []⟩]
def r198_8 : List VOper := [
  ⟨some 34, .move (.t 9), none, []⟩,
  ⟨some 35, .move (.t 10), none, []⟩,
  ⟨some 36, .call true (.c (.fn 106 [])) [.t 34, .t 35], none, []⟩,
  ⟨some 11, .move (.t 36), none, []⟩]
def r198_9 : List VOper := [
  ⟨some 37, .move (.t 0), none, []⟩,
  ⟨some 38, .call true (.c (.fn 202 [])) [.t 37], none, []⟩,
  ⟨some 12, .move (.t 38), none, []⟩]
def r198_10 : List VOper := [
  ⟨some 39, .move (.t 3), none, []⟩,
  ⟨some 40, .call true (.c (.fn 38 [])) [.t 39], none, []⟩,
  ⟨some 41, .move (.t 3), none, []⟩,
  ⟨some 42, .call true (.c (.fn 39 [])) [.t 41], none, []⟩,
  ⟨some 43, .bin .neq (.t 40) (.t 42), none, []⟩,
  ⟨some 44, .move (.t 43), none, []⟩,
  ⟨some 45, .move (.t 5), some (44, false), []⟩,
  ⟨some 46, .move (.t 7), some (44, false), []⟩,
  ⟨some 47, .bin .neq (.t 45) (.t 46), some (44, false), []⟩,
  ⟨some 48, .pick (.t 44) (.c (.d (.bool true))) (.t 47), none, []⟩,
  ⟨some 49, .move (.t 48), none, []⟩,
  ⟨some 50, .move (.t 6), some (49, false), []⟩,
  ⟨some 51, .move (.t 8), some (49, false), []⟩,
  ⟨some 52, .eqB true (.t 50) (.t 51), some (49, false), []⟩,
  ⟨some 53, .pick (.t 49) (.c (.d (.bool true))) (.t 52), none, []⟩,
  ⟨some 54, .move (.t 53), none, []⟩,
  ⟨some 55, .move (.t 11), some (54, false), []⟩,
  ⟨some 56, .move (.t 9), some (54, false), []⟩,
  ⟨some 57, .move (.t 10), some (54, false), []⟩,
  ⟨some 58, .call true (.c (.fn 112 [])) [.t 56, .t 57], some (54, false), []⟩,
  ⟨some 59, .call true (.c (.fn 188 [])) [.t 55, .t 58], some (54, false), []⟩,
  ⟨some 60, .not (.t 59), some (54, false), []⟩,
  ⟨some 61, .pick (.t 54) (.c (.d (.bool true))) (.t 60), none, []⟩,
  ⟨some 62, .move (.t 61), none, []⟩,
  ⟨some 63, .move (.t 12), some (62, false), []⟩,
  ⟨some 64, .call true (.c (.fn 121 [])) [.t 63], some (62, false), []⟩,
  ⟨some 65, .move (.t 12), some (62, false), []⟩,
  ⟨some 66, .call true (.c (.fn 120 [])) [.t 65], some (62, false), []⟩,
  ⟨some 67, .bin .neq (.t 64) (.t 66), some (62, false), []⟩,
  ⟨some 68, .pick (.t 62) (.c (.d (.bool true))) (.t 67), none, []⟩,
  ⟨some 69, .move (.t 68), none, []⟩,
  ⟨some 70, .move (.t 9), some (69, false), []⟩,
  ⟨some 71, .move (.t 10), some (69, false), []⟩,
  ⟨some 72, .call true (.c (.fn 54 [])) [.t 70, .t 71], some (69, false), []⟩,
  ⟨some 73, .move (.t 9), some (69, false), []⟩,
  ⟨some 74, .move (.t 10), some (69, false), []⟩,
  ⟨some 75, .call true (.c (.fn 53 [])) [.t 73, .t 74], some (69, false), []⟩,
  ⟨some 76, .eqB true (.t 72) (.t 75), some (69, false), []⟩,
  ⟨some 77, .pick (.t 69) (.c (.d (.bool true))) (.t 76), none, []⟩]
def r198_11 : List VOper := [
  ⟨some 2, .move (.c (.d (.bool false))), none, []⟩]
def r198_12 : List VOper := [
  ⟨some 78, .move (.t 6), none, []⟩,
  ⟨some 79, .not (.t 78), none, []⟩,
  ⟨some 80, .move (.t 79), none, []⟩,
  ⟨some 81, .move (.t 5), some (80, false), []⟩,
  ⟨some 82, .call true (.c (.fn 38 [])) [.t 81], some (80, false), []⟩,
  ⟨some 83, .move (.t 4), some (80, false), []⟩,
  ⟨some 84, .bin .eql (.t 82) (.t 83), some (80, false), []⟩,
  ⟨some 85, .pick (.t 80) (.c (.d (.bool true))) (.t 84), none, []⟩,
  ⟨some 86, .move (.t 85), none, []⟩,
  ⟨some 87, .move (.t 11), some (86, true), []⟩,
  ⟨some 88, .move (.t 10), some (86, true), []⟩,
  ⟨some 89, .call true (.c (.fn 54 [])) [.t 87, .t 88], some (86, true), []⟩,
  ⟨some 90, .pick (.t 86) (.t 89) (.c (.d (.bool false))), none, []⟩,
  ⟨some 91, .move (.t 90), none, []⟩,
  ⟨some 92, .move (.t 11), some (91, true), []⟩,
  ⟨some 93, .len false (.t 92), some (91, true), []⟩,
  ⟨some 94, .move (.t 9), some (91, true), []⟩,
  ⟨some 95, .len false (.t 94), some (91, true), []⟩,
  ⟨some 96, .bin .add (.t 95) (.c (.d (.int .i64 1))), some (91, true), []⟩,
  ⟨some 97, .bin .leq (.t 93) (.t 96), some (91, true), []⟩,
  ⟨some 98, .pick (.t 91) (.t 97) (.c (.d (.bool false))), none, []⟩,
  ⟨some 2, .move (.t 98), none, []⟩]
def v198 : VFn := ⟨1, [.tmp 2], (.seq (.region false 0 [0] r198_0) (.seq (.seq (.region false 0 [0, 14] r198_1) (.cond (.t 14) (.seq (.region false 0 [2] r198_2) .ret) .skip)) (.seq (.region false 0 [0, 3] r198_3) (.seq (.region false 0 [0, 3, 4] r198_4) (.seq (.region false 0 [0, 3, 4, 5, 6] r198_5) (.seq (.region false 0 [0, 3, 4, 5, 6, 7, 8] r198_6) (.seq (.region false 0 [0, 3, 4, 5, 6, 7, 8, 9, 10] r198_7) (.seq (.region false 0 [0, 3, 4, 5, 6, 7, 8, 9, 10, 11] r198_8) (.seq (.region false 0 [3, 4, 5, 6, 7, 8, 9, 10, 11, 12] r198_9) (.seq (.seq (.region false 0 [4, 5, 6, 9, 10, 11, 77] r198_10) (.cond (.t 77) (.seq (.region false 0 [2] r198_11) .ret) .skip)) (.seq (.region false 0 [2] r198_12) .ret)))))))))))⟩
/-! loop.example/g00461/spec.DrawDigits -/
def r199_0 : List VOper := [
  ⟨some 2, .move (.c (.d (.int .i64 0))), none, []⟩]
def r199_1 : List VOper := [
  ⟨some 3, .move (.t 0), none, []⟩,
  ⟨some 4, .call false (.c (.fn 156 [])) [.t 3], none, []⟩,
  ⟨some 5, .buildSlice 1 (.int .i64 0) 6 [(0, .c (.d (.int .i64 0))), (1, .c (.d (.int .i64 7))), (2, .c (.d (.int .i64 (-12)))), (3, .c (.d (.int .i64 100000))), (4, .c (.d (.int .i64 9223372036854775807))), (5, .c (.d (.int .i64 (-9223372036854775808))))], none, []⟩,
  ⟨some 6, .call false (.c (.fn 160 [])) [.t 4, .t 5], none, []⟩,
  ⟨some 2, .move (.t 6), none, []⟩]
def v199 : VFn := ⟨1, [.tmp 2], (.seq (.region false 0 [0] r199_0) (.seq (.region false 0 [2] r199_1) .ret))⟩
/-! loop.example/g00461/spec.DrawNumber -/
def r200_0 : List VOper := [
  ⟨some 2, .move (.c (.d (.str ⟨#[]⟩))), none, []⟩]
def r200_1 : List VOper := [
  ⟨some 3, .move (.t 0), none, []⟩,
  ⟨some 4, .call false (.c (.fn 156 [])) [.t 3], none, []⟩,
  ⟨some 5, .buildSlice 1 (.str ⟨#[]⟩) 9 [(0, .c (.d (.str ⟨#[48]⟩))), (1, .c (.d (.str ⟨#[55]⟩))), (2, .c (.d (.str ⟨#[57, 57, 57, 57, 57, 57]⟩))), (3, .c (.d (.str ⟨#[49, 48, 48, 48, 48, 48, 48]⟩))), (4, .c (.d (.str ⟨#[48, 49]⟩))), (5, .c (.d (.str ⟨#[]⟩))), (6, .c (.d (.str ⟨#[45, 49]⟩))), (7, .c (.d (.str ⟨#[120]⟩))), (8, .c (.d (.str ⟨#[49, 50, 97]⟩)))], none, []⟩,
  ⟨some 6, .call false (.c (.fn 196 [])) [.t 4, .t 5], none, []⟩,
  ⟨some 2, .move (.t 6), none, []⟩]
def v200 : VFn := ⟨1, [.tmp 2], (.seq (.region false 0 [0] r200_0) (.seq (.region false 0 [2] r200_1) .ret))⟩
/-! loop.example/g00461/spec.DrawNumAdd -/
def r201_0 : List VOper := [
  ⟨some 2, .move (.c (.d (.sl .nil []))), none, []⟩,
  ⟨some 3, .move (.c (.d (.int .i64 0))), none, []⟩]
def r201_1 : List VOper := [
  ⟨some 7, .move (.t 0), none, []⟩,
  ⟨some 8, .call true (.c (.fn 204 [])) [.t 7], none, []⟩,
  ⟨some 6, .move (.t 8), none, []⟩,
  ⟨some 9, .extract (.t 6) 0, none, []⟩,
  ⟨some 10, .extract (.t 6) 1, none, []⟩,
  ⟨some 4, .move (.t 9), none, []⟩,
  ⟨some 5, .move (.t 10), none, []⟩]
def r201_2 : List VOper := [
  ⟨some 11, .move (.t 4), none, []⟩,
  ⟨some 12, .move (.t 5), none, []⟩,
  ⟨some 2, .move (.t 11), none, []⟩,
  ⟨some 3, .move (.t 12), none, []⟩]
def v201 : VFn := ⟨1, [.tmp 2, .tmp 3], (.seq (.region false 0 [0] r201_0) (.seq (.region false 0 [4, 5] r201_1) (.seq (.region false 0 [2, 3] r201_2) .ret)))⟩
/-! loop.example/g00461/spec.DrawNumsText -/
def r202_0 : List VOper := [
  ⟨some 2, .move (.c (.d (.sl .nil []))), none, []⟩]
def r202_1 : List VOper := [
  ⟨some 3, .move (.t 0), none, []⟩,
  ⟨some 4, .call false (.c (.fn 156 [])) [.t 3], none, []⟩,
  ⟨some 5, .call false (.c (.fn 203 [])) [.t 4], none, []⟩,
  ⟨some 2, .move (.t 5), none, []⟩]
def v202 : VFn := ⟨1, [.tmp 2], (.seq (.region false 0 [0] r202_0) (.seq (.region false 0 [2] r202_1) .ret))⟩
/-! loop.example/g00461/spec.l1DrawList -/
def r203_0 : List VOper := [
  ⟨some 2, .move (.c (.d (.sl .nil []))), none, []⟩]
def r203_1 : List VOper := [
  ⟨some 5, .buildSlice 1 (.int .i64 0) 0 [], none, []⟩,
  ⟨some 3, .move (.t 5), none, []⟩]
def r203_2 : List VOper := [
  ⟨some 4, .move (.c (.d (.int .i64 0))), none, []⟩]
def r203_3 : List VOper := [
  ⟨some 6, .move (.t 4), none, []⟩,
  ⟨some 7, .move (.t 0), none, []⟩,
  ⟨some 8, .call false (.c (.fn 159 [])) [.t 7, .c (.d (.int .i64 6))], none, []⟩,
  ⟨some 9, .bin .lss (.t 6) (.t 8), none, []⟩]
def r203_5 : List VOper := [
  ⟨some 12, .move (.t 3), none, []⟩,
  ⟨some 13, .move (.t 0), none, []⟩,
  ⟨some 14, .buildSlice 1 (.int .i64 0) 6 [(0, .c (.d (.int .i64 0))), (1, .c (.d (.int .i64 1))), (2, .c (.d (.int .i64 2))), (3, .c (.d (.int .i64 5))), (4, .c (.d (.int .i64 9))), (5, .c (.d (.int .i64 (-3))))], none, []⟩,
  ⟨some 15, .call false (.c (.fn 160 [])) [.t 13, .t 14], none, []⟩,
  ⟨some 16, .buildSlice 1 (.int .i64 0) 1 [(0, .t 15)], none, []⟩,
  ⟨some 17, .append 1 8 (.t 12) (.t 16), none, []⟩,
  ⟨some 3, .move (.t 17), none, []⟩]
def r203_4 : List VOper := [
  ⟨some 10, .move (.t 4), none, []⟩,
  ⟨some 11, .bin .add (.t 10) (.c (.d (.int .i64 1))), none, []⟩,
  ⟨some 4, .move (.t 11), none, []⟩]
def b203_0 : VCode := (.seq (.seq (.region false 0 [0, 3, 4, 9] r203_3) (.cond (.t 9) .skip (.exit 0))) (.seq (.block 1 (.region false 0 [0, 3, 4] r203_5)) (.region false 0 [0, 3, 4] r203_4)))
def r203_6 : List VOper := [
  ⟨some 18, .move (.t 3), none, []⟩,
  ⟨some 2, .move (.t 18), none, []⟩]
def v203 : VFn := ⟨1, [.tmp 2], (.seq (.region false 0 [0] r203_0) (.seq (.region false 0 [0, 3] r203_1) (.seq (.seq (.region false 0 [0, 3, 4] r203_2) (.block 0 (.loop [0, 3, 4] b203_0))) (.seq (.region false 0 [2] r203_6) .ret))))⟩
/-! loop.example/g00461/spec.DrawNumIn -/
def r204_0 : List VOper := [
  ⟨some 2, .move (.c (.d (.sl .nil []))), none, []⟩,
  ⟨some 3, .move (.c (.d (.int .i64 0))), none, []⟩]
def r204_1 : List VOper := [
  ⟨some 6, .move (.t 0), none, []⟩,
  ⟨some 7, .call false (.c (.fn 156 [])) [.t 6], none, []⟩,
  ⟨some 4, .move (.t 7), none, []⟩]
def r204_2 : List VOper := [
  ⟨some 8, .move (.t 4), none, []⟩,
  ⟨some 9, .call false (.c (.fn 203 [])) [.t 8], none, []⟩,
  ⟨some 5, .move (.t 9), none, []⟩]
def r204_3 : List VOper := [
  ⟨some 10, .move (.t 5), none, []⟩,
  ⟨some 11, .move (.t 4), none, []⟩,
  ⟨some 12, .call false (.c (.fn 159 [])) [.t 11, .c (.d (.int .i64 6))], none, []⟩,
  ⟨some 2, .move (.t 10), none, []⟩,
  ⟨some 3, .move (.t 12), none, []⟩]
def v204 : VFn := ⟨1, [.tmp 2, .tmp 3], (.seq (.region false 0 [0] r204_0) (.seq (.region false 0 [4] r204_1) (.seq (.region false 0 [4, 5] r204_2) (.seq (.region false 0 [2, 3] r204_3) .ret))))⟩
/-! loop.example/g00461/laws.FnBasis -/
def r205_0 : List VOper := [
  ⟨some 2, .move (.c (.d (.bool false))), none, []⟩]
def r205_1 : List VOper := [
  ⟨some 21, .move (.t 0), none, []⟩,
  ⟨some 22, .call true (.c (.fn 133 [])) [.t 21], none, []⟩]
def r205_2 : List VOper := [
  ⟨some 2, .move (.c (.d (.bool true))), none, []⟩]
def r205_3 : List VOper := [
  ⟨some 24, .move (.t 0), none, []⟩,
  ⟨some 25, .call true (.c (.fn 206 [])) [.t 24], none, []⟩,
  ⟨some 23, .move (.t 25), none, []⟩,
  ⟨some 26, .extract (.t 23) 0, none, []⟩,
  ⟨some 27, .extract (.t 23) 1, none, []⟩,
  ⟨some 3, .move (.t 26), none, []⟩,
  ⟨some 4, .move (.t 27), none, []⟩]
def r205_4 : List VOper := [
  ⟨some 29, .move (.t 3), none, []⟩,
  ⟨some 30, .move (.t 4), none, []⟩,
  ⟨some 31, .call true (.c (.fn 207 [])) [.t 29, .t 30], none, []⟩,
  ⟨some 28, .move (.t 31), none, []⟩,
  ⟨some 32, .extract (.t 28) 0, none, []⟩,
  ⟨some 33, .extract (.t 28) 1, none, []⟩,
  ⟨some 5, .move (.t 32), none, []⟩,
  ⟨some 6, .move (.t 33), none, []⟩]
def r205_5 : List VOper := [
  ⟨some 35, .move (.t 3), none, []⟩,
  ⟨some 36, .move (.t 4), none, []⟩,
  ⟨some 37, .call true (.c (.fn 208 [])) [.t 35, .t 36], none, []⟩,
  ⟨some 34, .move (.t 37), none, []⟩,
  ⟨some 38, .extract (.t 34) 0, none, []⟩,
  ⟨some 39, .extract (.t 34) 1, none, []⟩,
  ⟨some 7, .move (.t 38), none, []⟩,
  ⟨some 8, .move (.t 39), none, []⟩]
def r205_6 : List VOper := [
  ⟨some 41, .move (.t 0), none, []⟩,
  ⟨some 42, .call true (.c (.fn 209 [])) [.t 41], none, []⟩,
  ⟨some 40, .move (.t 42), none, []⟩,
  ⟨some 43, .extract (.t 40) 0, none, []⟩,
  ⟨some 44, .extract (.t 40) 1, none, []⟩,
  ⟨some 45, .extract (.t 40) 2, none, []⟩,
  ⟨some 9, .move (.t 43), none, []⟩,
  ⟨some 10, .move (.t 44), none, []⟩,
  ⟨some 11, .move (.t 45), none, []⟩]
def r205_7 : List VOper := [
  ⟨some 47, .move (.t 0), none, []⟩,
  ⟨some 48, .call true (.c (.fn 210 [])) [.t 47], none, []⟩,
  ⟨some 46, .move (.t 48), none, []⟩,
  ⟨some 49, .extract (.t 46) 0, none, []⟩,
  ⟨some 50, .extract (.t 46) 1, none, []⟩,
  ⟨some 12, .move (.t 49), none, []⟩,
  ⟨some 13, .move (.t 50), none, []⟩]
def r205_8 : List VOper := [
  ⟨some 52, .move (.t 0), none, []⟩,
  ⟨some 53, .call true (.c (.fn 211 [])) [.t 52], none, []⟩,
  ⟨some 51, .move (.t 53), none, []⟩,
  ⟨some 54, .extract (.t 51) 0, none, []⟩,
  ⟨some 55, .extract (.t 51) 1, none, []⟩,
  ⟨some 14, .move (.t 54), none, []⟩,
  ⟨some 15, .move (.t 55), none, []⟩]
def r205_9 : List VOper := [
  ⟨some 56, .move (.t 6), none, []⟩,
  ⟨some 57, .move (.t 8), none, []⟩,
  ⟨some 58, .eqB true (.t 56) (.t 57), none, []⟩,
  ⟨some 59, .move (.t 58), none, []⟩,
  ⟨some 60, .move (.t 5), some (59, false), []⟩,
  ⟨some 61, .len false (.t 60), some (59, false), []⟩,
  ⟨some 62, .move (.t 7), some (59, false), []⟩,
  ⟨some 63, .len false (.t 62), some (59, false), []⟩,
  ⟨some 64, .bin .neq (.t 61) (.t 63), some (59, false), []⟩,
  ⟨some 65, .pick (.t 59) (.c (.d (.bool true))) (.t 64), none, []⟩,
  ⟨some 66, .move (.t 65), none, []⟩,
  ⟨some 67, .move (.t 9), some (66, false), []⟩,
  ⟨some 68, .move (.t 10), some (66, false), []⟩,
  ⟨some 69, .move (.t 11), some (66, false), []⟩,
  ⟨some 70, .call true (.c (.fn 43 [])) [.t 67, .t 68, .t 69], some (66, false), []⟩,
  ⟨some 71, .move (.t 9), some (66, false), []⟩,
  ⟨some 72, .move (.t 10), some (66, false), []⟩,
  ⟨some 73, .move (.t 11), some (66, false), []⟩,
  ⟨some 74, .call true (.c (.fn 42 [])) [.t 71, .t 72, .t 73], some (66, false), []⟩,
  ⟨some 75, .eqB true (.t 70) (.t 74), some (66, false), []⟩,
  ⟨some 76, .pick (.t 66) (.c (.d (.bool true))) (.t 75), none, []⟩,
  ⟨some 77, .move (.t 76), none, []⟩,
  ⟨some 78, .move (.t 12), some (77, false), []⟩,
  ⟨some 79, .move (.t 13), some (77, false), []⟩,
  ⟨some 80, .call true (.c (.fn 51 [])) [.t 78, .t 79], some (77, false), []⟩,
  ⟨some 81, .move (.t 12), some (77, false), []⟩,
  ⟨some 82, .move (.t 13), some (77, false), []⟩,
  ⟨some 83, .call true (.c (.fn 50 [])) [.t 81, .t 82], some (77, false), []⟩,
  ⟨some 84, .eqB true (.t 80) (.t 83), some (77, false), []⟩,
  ⟨some 85, .pick (.t 77) (.c (.d (.bool true))) (.t 84), none, []⟩,
  ⟨some 86, .move (.t 85), none, []⟩,
  ⟨some 87, .move (.t 14), some (86, false), []⟩,
  ⟨some 88, .move (.t 15), some (86, false), []⟩,
  ⟨some 89, .call true (.c (.fn 212 [])) [.t 87, .t 88], some (86, false), []⟩,
  ⟨some 90, .move (.t 14), some (86, false), []⟩,
  ⟨some 91, .move (.t 15), some (86, false), []⟩,
  ⟨some 92, .call true (.c (.fn 213 [])) [.t 90, .t 91], some (86, false), []⟩,
  ⟨some 93, .call true (.c (.fn 188 [])) [.t 89, .t 92], some (86, false), []⟩,
  ⟨some 94, .not (.t 93), some (86, false), []⟩,
  ⟨some 95, .pick (.t 86) (.c (.d (.bool true))) (.t 94), none, []⟩]
def r205_10 : List VOper := [
  ⟨some 2, .move (.c (.d (.bool false))), none, []⟩]
def r205_11 : List VOper := [
  ⟨some 16, .move (.c (.d (.int .i64 0))), none, []⟩]
def r205_12 : List VOper := [
  ⟨some 96, .move (.t 16), none, []⟩,
  ⟨some 97, .move (.t 5), none, []⟩,
  ⟨some 98, .len false (.t 97), none, []⟩,
  ⟨some 99, .bin .lss (.t 96) (.t 98), none, []⟩]
def r205_14 : List VOper := [
  ⟨some 102, .move (.t 5), none, []⟩,
  ⟨some 103, .move (.t 16), none, []⟩,
  ⟨some 104, .indexAddr 1 none (.t 102) (.t 103), none, [0, 1]⟩,
  ⟨some 105, .load false 1 (.t 104), none, [2]⟩,
  ⟨some 106, .move (.t 7), none, []⟩,
  ⟨some 107, .move (.t 16), none, []⟩,
  ⟨some 108, .indexAddr 1 none (.t 106) (.t 107), none, [4, 5]⟩,
  ⟨some 109, .load false 1 (.t 108), none, [6]⟩,
  ⟨some 110, .call true (.c (.fn 188 [])) [.t 105, .t 109], none, [3, 7]⟩,
  ⟨some 111, .not (.t 110), none, [8]⟩,
  ⟨some 112, .move (.t 111), none, [8, 9]⟩,
  ⟨some 113, .move (.t 3), some (112, false), [10]⟩,
  ⟨some 114, .move (.t 4), some (112, false), [10]⟩,
  ⟨some 115, .move (.t 5), some (112, false), [10]⟩,
  ⟨some 116, .move (.t 16), some (112, false), [10]⟩,
  ⟨some 117, .indexAddr 1 none (.t 115) (.t 116), some (112, false), [10, 13, 14]⟩,
  ⟨some 118, .load false 1 (.t 117), some (112, false), [10, 15]⟩,
  ⟨some 119, .call true (.c (.fn 43 [])) [.t 113, .t 114, .t 118], some (112, false), [10, 11, 12, 16]⟩,
  ⟨some 120, .not (.t 119), some (112, false), [10, 17]⟩,
  ⟨some 121, .pick (.t 112) (.c (.d (.bool true))) (.t 120), none, [10, 18]⟩]
def r205_15 : List VOper := [
  ⟨some 2, .move (.c (.d (.bool false))), none, []⟩]
def r205_16 : List VOper := [
  ⟨some 17, .move (.c (.d (.int .i64 0))), none, []⟩]
def r205_17 : List VOper := [
  ⟨some 122, .move (.t 17), none, []⟩,
  ⟨some 123, .move (.t 5), none, []⟩,
  ⟨some 124, .len false (.t 123), none, []⟩,
  ⟨some 125, .bin .lss (.t 122) (.t 124), none, []⟩]
def r205_19 : List VOper := [
  ⟨some 128, .move (.t 5), none, []⟩,
  ⟨some 129, .move (.t 17), none, []⟩,
  ⟨some 130, .indexAddr 1 none (.t 128) (.t 129), none, [0, 1]⟩,
  ⟨some 131, .load false 1 (.t 130), none, [2]⟩,
  ⟨some 132, .move (.t 5), none, []⟩,
  ⟨some 133, .move (.t 16), none, []⟩,
  ⟨some 134, .indexAddr 1 none (.t 132) (.t 133), none, [4, 5]⟩,
  ⟨some 135, .load false 1 (.t 134), none, [6]⟩,
  ⟨some 136, .call true (.c (.fn 51 [])) [.t 131, .t 135], none, [3, 7]⟩]
def r205_20 : List VOper := [
  ⟨some 2, .move (.c (.d (.bool false))), none, []⟩]
def r205_18 : List VOper := [
  ⟨some 126, .move (.t 17), none, []⟩,
  ⟨some 127, .bin .add (.t 126) (.c (.d (.int .i64 1))), none, []⟩,
  ⟨some 17, .move (.t 127), none, []⟩]
def b205_1 : VCode := (.seq (.seq (.region false 0 [0, 3, 4, 5, 6, 7, 16, 17, 125] r205_17) (.cond (.t 125) .skip (.exit 2))) (.seq (.block 3 (.seq (.region true 0 [0, 3, 4, 5, 6, 7, 16, 17, 136] r205_19) (.cond (.t 136) (.seq (.region false 0 [2] r205_20) .ret) .skip))) (.region false 0 [0, 3, 4, 5, 6, 7, 16, 17] r205_18)))
def r205_13 : List VOper := [
  ⟨some 100, .move (.t 16), none, []⟩,
  ⟨some 101, .bin .add (.t 100) (.c (.d (.int .i64 1))), none, []⟩,
  ⟨some 16, .move (.t 101), none, []⟩]
def b205_0 : VCode := (.seq (.seq (.region false 0 [0, 3, 4, 5, 6, 7, 16, 99] r205_12) (.cond (.t 99) .skip (.exit 0))) (.seq (.block 1 (.seq (.seq (.region true 0 [0, 3, 4, 5, 6, 7, 16, 121] r205_14) (.cond (.t 121) (.seq (.region false 0 [2] r205_15) .ret) .skip)) (.seq (.region false 0 [0, 3, 4, 5, 6, 7, 16, 17] r205_16) (.block 2 (.loop [0, 3, 4, 5, 6, 7, 16, 17] b205_1))))) (.region false 0 [0, 3, 4, 5, 6, 7, 16] r205_13)))
def r205_21 : List VOper := [
  ⟨some 18, .move (.c (.d (.int .i64 0))), none, []⟩]
def r205_22 : List VOper := [
  ⟨some 137, .move (.t 6), none, []⟩,
  ⟨some 138, .move (.t 137), none, []⟩,
  ⟨some 139, .move (.t 18), some (138, true), []⟩,
  ⟨some 140, .bin .lss (.t 139) (.c (.d (.int .i64 12))), some (138, true), []⟩,
  ⟨some 141, .pick (.t 138) (.t 140) (.c (.d (.bool false))), none, []⟩]
def r205_24 : List VOper := [
  ⟨some 144, .buildSlice 1 (.int .i64 0) 0 [], none, []⟩,
  ⟨some 19, .move (.t 144), none, []⟩]
def r205_25 : List VOper := [
  ⟨some 20, .move (.c (.d (.int .i64 0))), none, []⟩]
def r205_26 : List VOper := [
  ⟨some 145, .move (.t 20), none, []⟩,
  ⟨some 146, .move (.t 3), none, []⟩,
  ⟨some 147, .len false (.t 146), none, []⟩,
  ⟨some 148, .move (.t 4), none, []⟩,
  ⟨some 149, .len false (.t 148), none, []⟩,
  ⟨some 150, .bin .add (.t 147) (.t 149), none, []⟩,
  ⟨some 151, .bin .lss (.t 145) (.t 150), none, []⟩]
def r205_28 : List VOper := [
  ⟨some 154, .move (.t 19), none, []⟩,
  ⟨some 155, .move (.t 0), none, []⟩,
  ⟨some 156, .move (.t 18), none, []⟩,
  ⟨some 157, .move (.t 20), none, []⟩,
  ⟨some 158, .bin .add (.t 156) (.t 157), none, []⟩,
  ⟨some 159, .call true (.c (.fn 214 [])) [.t 155, .t 158], none, []⟩,
  ⟨some 160, .bin .rem (.t 159) (.c (.d (.int .i64 4))), none, []⟩,
  ⟨some 161, .buildSlice 1 (.int .i64 0) 1 [(0, .t 160)], none, []⟩,
  ⟨some 162, .append 1 8 (.t 154) (.t 161), none, []⟩,
  ⟨some 19, .move (.t 162), none, []⟩]
def r205_27 : List VOper := [
  ⟨some 152, .move (.t 20), none, []⟩,
  ⟨some 153, .bin .add (.t 152) (.c (.d (.int .i64 1))), none, []⟩,
  ⟨some 20, .move (.t 153), none, []⟩]
def b205_3 : VCode := (.seq (.seq (.region false 0 [0, 3, 4, 5, 6, 18, 19, 20, 151] r205_26) (.cond (.t 151) .skip (.exit 6))) (.seq (.block 7 (.region false 0 [0, 3, 4, 5, 6, 18, 19, 20] r205_28)) (.region false 0 [0, 3, 4, 5, 6, 18, 19, 20] r205_27)))
def r205_29 : List VOper := [
  ⟨some 163, .move (.t 3), none, []⟩,
  ⟨some 164, .move (.t 4), none, []⟩,
  ⟨some 165, .move (.t 19), none, []⟩,
  ⟨some 166, .call true (.c (.fn 43 [])) [.t 163, .t 164, .t 165], none, []⟩,
  ⟨some 167, .move (.t 166), none, []⟩,
  ⟨some 168, .move (.t 5), some (167, true), []⟩,
  ⟨some 169, .move (.t 19), some (167, true), []⟩,
  ⟨some 170, .call true (.c (.fn 215 [])) [.t 168, .t 169], some (167, true), []⟩,
  ⟨some 171, .not (.t 170), some (167, true), []⟩,
  ⟨some 172, .pick (.t 167) (.t 171) (.c (.d (.bool false))), none, []⟩,
  ⟨some 173, .move (.t 172), none, []⟩,
  ⟨some 174, .move (.t 19), some (173, true), []⟩,
  ⟨some 175, .call true (.c (.fn 216 [])) [.t 174], some (173, true), []⟩,
  ⟨some 176, .not (.t 175), some (173, true), []⟩,
  ⟨some 177, .pick (.t 173) (.t 176) (.c (.d (.bool false))), none, []⟩]
def r205_30 : List VOper := [
  ⟨some 2, .move (.c (.d (.bool false))), none, []⟩]
def r205_23 : List VOper := [
  ⟨some 142, .move (.t 18), none, []⟩,
  ⟨some 143, .bin .add (.t 142) (.c (.d (.int .i64 1))), none, []⟩,
  ⟨some 18, .move (.t 143), none, []⟩]
def b205_2 : VCode := (.seq (.seq (.region false 0 [0, 3, 4, 5, 6, 18, 141] r205_22) (.cond (.t 141) .skip (.exit 4))) (.seq (.block 5 (.seq (.region false 0 [0, 3, 4, 5, 6, 18, 19] r205_24) (.seq (.seq (.region false 0 [0, 3, 4, 5, 6, 18, 19, 20] r205_25) (.block 6 (.loop [0, 3, 4, 5, 6, 18, 19, 20] b205_3))) (.seq (.region false 0 [0, 3, 4, 5, 6, 18, 177] r205_29) (.cond (.t 177) (.seq (.region false 0 [2] r205_30) .ret) .skip))))) (.region false 0 [0, 3, 4, 5, 6, 18] r205_23)))
def r205_31 : List VOper := [
  ⟨some 178, .move (.t 6), none, []⟩,
  ⟨some 179, .move (.t 178), none, []⟩,
  ⟨some 180, .move (.t 5), some (179, false), []⟩,
  ⟨some 181, .len false (.t 180), some (179, false), []⟩,
  ⟨some 182, .bin .eql (.t 181) (.c (.d (.int .i64 0))), some (179, false), []⟩,
  ⟨some 183, .pick (.t 179) (.c (.d (.bool true))) (.t 182), none, []⟩,
  ⟨some 2, .move (.t 183), none, []⟩]
def v205 : VFn := ⟨1, [.tmp 2], (.seq (.region false 0 [0] r205_0) (.seq (.seq (.region false 0 [0, 22] r205_1) (.cond (.t 22) (.seq (.region false 0 [2] r205_2) .ret) .skip)) (.seq (.region false 0 [0, 3, 4] r205_3) (.seq (.region false 0 [0, 3, 4, 5, 6] r205_4) (.seq (.region false 0 [0, 3, 4, 5, 6, 7, 8] r205_5) (.seq (.region false 0 [0, 3, 4, 5, 6, 7, 8, 9, 10, 11] r205_6) (.seq (.region false 0 [0, 3, 4, 5, 6, 7, 8, 9, 10, 11, 12, 13] r205_7) (.seq (.region false 0 [0, 3, 4, 5, 6, 7, 8, 9, 10, 11, 12, 13, 14, 15] r205_8) (.seq (.seq (.region false 0 [0, 3, 4, 5, 6, 7, 95] r205_9) (.cond (.t 95) (.seq (.region false 0 [2] r205_10) .ret) .skip)) (.seq (.seq (.region false 0 [0, 3, 4, 5, 6, 7, 16] r205_11) (.block 0 (.loop [0, 3, 4, 5, 6, 7, 16] b205_0))) (.seq (.seq (.region false 0 [0, 3, 4, 5, 6, 18] r205_21) (.block 4 (.loop [0, 3, 4, 5, 6, 18] b205_2))) (.seq (.region false 0 [2] r205_31) .ret))))))))))))⟩
/-! loop.example/g00461/spec.DrawBasis -/
def r206_0 : List VOper := [
  ⟨some 2, .move (.c (.d (.sl .nil []))), none, []⟩,
  ⟨some 3, .move (.c (.d (.sl .nil []))), none, []⟩]
def r206_1 : List VOper := [
  ⟨some 6, .move (.t 0), none, []⟩,
  ⟨some 7, .call false (.c (.fn 156 [])) [.t 6], none, []⟩,
  ⟨some 4, .move (.t 7), none, []⟩]
def r206_2 : List VOper := [
  ⟨some 8, .move (.t 4), none, []⟩,
  ⟨some 9, .call false (.c (.fn 231 [])) [.t 8], none, []⟩,
  ⟨some 5, .move (.t 9), none, []⟩]
def r206_3 : List VOper := [
  ⟨some 10, .move (.t 5), none, []⟩,
  ⟨some 11, .move (.t 4), none, []⟩,
  ⟨some 12, .call false (.c (.fn 231 [])) [.t 11], none, []⟩,
  ⟨some 2, .move (.t 10), none, []⟩,
  ⟨some 3, .move (.t 12), none, []⟩]
def v206 : VFn := ⟨1, [.tmp 2, .tmp 3], (.seq (.region false 0 [0] r206_0) (.seq (.region false 0 [4] r206_1) (.seq (.region false 0 [4, 5] r206_2) (.seq (.region false 0 [2, 3] r206_3) .ret))))⟩
/-! loop.example/g00461/impl.Basis -/
def r207_0 : List VOper := [
  ⟨some 4, .move (.c (.d (.sl .nil []))), none, []⟩,
  ⟨some 5, .move (.c (.d (.bool false))), none, []⟩]
def r207_1 : List VOper := [
  ⟨some 16, .move (.t 0), none, []⟩,
  ⟨some 17, .call true (.c (.fn 222 [])) [.t 16], none, []⟩,
  ⟨some 18, .not (.t 17), none, []⟩,
  ⟨some 19, .move (.t 18), none, []⟩,
  ⟨some 20, .move (.t 1), some (19, false), []⟩,
  ⟨some 21, .call true (.c (.fn 222 [])) [.t 20], some (19, false), []⟩,
  ⟨some 22, .not (.t 21), some (19, false), []⟩,
  ⟨some 23, .pick (.t 19) (.c (.d (.bool true))) (.t 22), none, []⟩]
def r207_2 : List VOper := [
  ⟨some 4, .move (.c (.d (.sl .nil []))), none, []⟩,
  ⟨some 5, .move (.c (.d (.bool false))), none, []⟩]
def r207_3 : List VOper := [
  ⟨some 24, .buildSlice 1 (.sl .nil []) 0 [], none, []⟩,
  ⟨some 6, .move (.t 24), none, []⟩]
def r207_4 : List VOper := [
  ⟨some 25, .move (.t 1), none, []⟩,
  ⟨some 26, .len false (.t 25), none, []⟩,
  ⟨some 27, .move (.t 0), none, []⟩,
  ⟨some 28, .call true (.c (.fn 223 [])) [.t 27], none, []⟩,
  ⟨some 29, .call true (.c (.fn 224 [])) [.t 26, .t 28], none, []⟩,
  ⟨some 7, .move (.t 29), none, []⟩]
def r207_5 : List VOper := [
  ⟨some 30, .move (.t 0), none, []⟩,
  ⟨some 31, .len false (.t 30), none, []⟩,
  ⟨some 32, .move (.t 1), none, []⟩,
  ⟨some 33, .call true (.c (.fn 223 [])) [.t 32], none, []⟩,
  ⟨some 34, .call true (.c (.fn 224 [])) [.t 31, .t 33], none, []⟩,
  ⟨some 35, .len false (.t 34), none, []⟩,
  ⟨some 36, .move (.c (.d (.int .i64 0))), none, []⟩]
def r207_6 : List VOper := [
  ⟨some 37, .bin .lss (.t 36) (.t 35), none, []⟩]
def r207_7 : List VOper := [
  ⟨some 38, .indexAddr 1 none (.t 34) (.t 36), none, []⟩,
  ⟨some 39, .load false 1 (.t 38), none, []⟩,
  ⟨some 9, .move (.t 39), none, []⟩]
def r207_8 : List VOper := [
  ⟨some 40, .move (.t 7), none, []⟩,
  ⟨some 41, .len false (.t 40), none, []⟩,
  ⟨some 42, .move (.c (.d (.int .i64 0))), none, []⟩]
def r207_9 : List VOper := [
  ⟨some 43, .bin .lss (.t 42) (.t 41), none, []⟩]
def r207_10 : List VOper := [
  ⟨some 44, .indexAddr 1 none (.t 40) (.t 42), none, []⟩,
  ⟨some 45, .load false 1 (.t 44), none, []⟩,
  ⟨some 11, .move (.t 45), none, []⟩]
def r207_11 : List VOper := [
  ⟨some 46, .move (.t 9), none, []⟩,
  ⟨some 47, .move (.t 11), none, []⟩,
  ⟨some 48, .buildSlice 1 (.sl .nil []) 2 [(0, .t 46), (1, .t 47)], none, []⟩,
  ⟨some 49, .call true (.c (.fn 225 [])) [.t 48], none, []⟩,
  ⟨some 12, .move (.t 49), none, []⟩]
def r207_12 : List VOper := [
  ⟨some 50, .move (.t 12), none, []⟩,
  ⟨some 51, .call true (.c (.fn 223 [])) [.t 50], none, []⟩,
  ⟨some 52, .bin .gtr (.t 51) (.c (.d (.int .i64 0))), none, []⟩,
  ⟨some 53, .move (.t 52), none, []⟩,
  ⟨some 54, .move (.t 0), some (53, true), []⟩,
  ⟨some 55, .move (.t 1), some (53, true), []⟩,
  ⟨some 56, .move (.t 12), some (53, true), []⟩,
  ⟨some 57, .call true (.c (.fn 43 [])) [.t 54, .t 55, .t 56], some (53, true), []⟩,
  ⟨some 58, .pick (.t 53) (.t 57) (.c (.d (.bool false))), none, []⟩]
def r207_13 : List VOper := [
  ⟨some 59, .move (.t 6), none, []⟩,
  ⟨some 60, .move (.t 12), none, []⟩,
  ⟨some 61, .buildSlice 1 (.sl .nil []) 1 [(0, .t 60)], none, []⟩,
  ⟨some 62, .append 1 24 (.t 59) (.t 61), none, []⟩,
  ⟨some 6, .move (.t 62), none, []⟩]
def r207_14 : List VOper := [
  ⟨some 63, .bin .add (.t 42) (.c (.d (.int .i64 1))), none, []⟩,
  ⟨some 42, .move (.t 63), none, []⟩]
def b207_1 : VCode := (.seq (.region false 0 [0, 1, 6, 7, 9, 34, 35, 36, 40, 41, 42, 43] r207_9) (.seq (.cond (.t 43) .skip (.exit 2)) (.seq (.block 3 (.seq (.region false 0 [0, 1, 6, 7, 9, 11, 34, 35, 36, 40, 41, 42] r207_10) (.seq (.region false 0 [0, 1, 6, 7, 9, 12, 34, 35, 36, 40, 41, 42] r207_11) (.seq (.region false 0 [0, 1, 6, 7, 9, 12, 34, 35, 36, 40, 41, 42, 58] r207_12) (.cond (.t 58) (.region false 0 [0, 1, 6, 7, 9, 34, 35, 36, 40, 41, 42] r207_13) .skip))))) (.region false 0 [0, 1, 6, 7, 9, 34, 35, 36, 40, 41, 42] r207_14))))
def r207_15 : List VOper := [
  ⟨some 64, .bin .add (.t 36) (.c (.d (.int .i64 1))), none, []⟩,
  ⟨some 36, .move (.t 64), none, []⟩]
def b207_0 : VCode := (.seq (.region false 0 [0, 1, 6, 7, 34, 35, 36, 37] r207_6) (.seq (.cond (.t 37) .skip (.exit 0)) (.seq (.block 1 (.seq (.region false 0 [0, 1, 6, 7, 9, 34, 35, 36] r207_7) (.seq (.region false 0 [0, 1, 6, 7, 9, 34, 35, 36, 40, 41, 42] r207_8) (.block 2 (.loop [0, 1, 6, 7, 9, 34, 35, 36, 40, 41, 42] b207_1))))) (.region false 0 [0, 1, 6, 7, 34, 35, 36] r207_15))))
def r207_16 : List VOper := [
  ⟨some 65, .buildSlice 1 (.sl .nil []) 0 [], none, []⟩,
  ⟨some 13, .move (.t 65), none, []⟩]
def r207_17 : List VOper := [
  ⟨some 66, .move (.t 6), none, []⟩,
  ⟨some 67, .len false (.t 66), none, []⟩,
  ⟨some 68, .move (.c (.d (.int .i64 0))), none, []⟩]
def r207_18 : List VOper := [
  ⟨some 69, .bin .lss (.t 68) (.t 67), none, []⟩]
def r207_19 : List VOper := [
  ⟨some 70, .indexAddr 1 none (.t 66) (.t 68), none, []⟩,
  ⟨some 71, .load false 1 (.t 70), none, []⟩,
  ⟨some 15, .alloc 0 [.sl .nil []], none, []⟩,
  ⟨none, .store false 1 (.t 15) (.t 71), none, []⟩]
def r207_20 : List VOper := [
  ⟨some 72, .move (.t 6), none, []⟩,
  ⟨some 73, .makeFunc 226 [.t 15], none, []⟩,
  ⟨some 74, .call false (.c (.fn 227 [])) [.t 72, .t 73], none, []⟩,
  ⟨some 75, .not (.t 74), none, []⟩]
def r207_21 : List VOper := [
  ⟨some 76, .move (.t 13), none, []⟩,
  ⟨some 77, .load false 1 (.t 15), none, []⟩,
  ⟨some 78, .buildSlice 1 (.sl .nil []) 1 [(0, .t 77)], none, []⟩,
  ⟨some 79, .append 1 24 (.t 76) (.t 78), none, []⟩,
  ⟨some 13, .move (.t 79), none, []⟩]
def r207_22 : List VOper := [
  ⟨some 80, .bin .add (.t 68) (.c (.d (.int .i64 1))), none, []⟩,
  ⟨some 68, .move (.t 80), none, []⟩]
def b207_2 : VCode := (.seq (.region false 0 [6, 13, 66, 67, 68, 69] r207_18) (.seq (.cond (.t 69) .skip (.exit 4)) (.seq (.block 5 (.seq (.region false 1 [6, 13, 15, 66, 67, 68] r207_19) (.seq (.region false 0 [6, 13, 15, 66, 67, 68, 75] r207_20) (.cond (.t 75) (.region false 0 [6, 13, 66, 67, 68] r207_21) .skip)))) (.region false 0 [6, 13, 66, 67, 68] r207_22))))
def r207_23 : List VOper := [
  ⟨some 81, .move (.t 13), none, []⟩,
  ⟨some 82, .len false (.t 81), none, []⟩,
  ⟨some 83, .bin .gtr (.t 82) (.c (.d (.int .i64 60))), none, []⟩]
def r207_24 : List VOper := [
  ⟨some 4, .move (.c (.d (.sl .nil []))), none, []⟩,
  ⟨some 5, .move (.c (.d (.bool false))), none, []⟩]
def r207_25 : List VOper := [
  ⟨some 84, .move (.t 13), none, []⟩,
  ⟨some 4, .move (.t 84), none, []⟩,
  ⟨some 5, .move (.c (.d (.bool true))), none, []⟩]
def v207 : VFn := ⟨2, [.tmp 4, .tmp 5], (.seq (.region false 0 [0, 1] r207_0) (.seq (.seq (.region false 0 [0, 1, 23] r207_1) (.cond (.t 23) (.seq (.region false 0 [4, 5] r207_2) .ret) .skip)) (.seq (.region false 0 [0, 1, 6] r207_3) (.seq (.region false 0 [0, 1, 6, 7] r207_4) (.seq (.seq (.region false 0 [0, 1, 6, 7, 34, 35, 36] r207_5) (.block 0 (.loop [0, 1, 6, 7, 34, 35, 36] b207_0))) (.seq (.region false 0 [6, 13] r207_16) (.seq (.seq (.region false 0 [6, 13, 66, 67, 68] r207_17) (.block 4 (.loop [6, 13, 66, 67, 68] b207_2))) (.seq (.seq (.region false 0 [13, 83] r207_23) (.cond (.t 83) (.seq (.region false 0 [4, 5] r207_24) .ret) .skip)) (.seq (.region false 0 [4, 5] r207_25) .ret)))))))))⟩
/-! loop.example/g00461/spec.Basis -/
def r208_0 : List VOper := [
  ⟨some 4, .move (.c (.d (.sl .nil []))), none, []⟩,
  ⟨some 5, .move (.c (.d (.bool false))), none, []⟩]
def r208_1 : List VOper := [
  ⟨some 11, .buildSlice 1 (.sl .nil []) 0 [], none, []⟩,
  ⟨some 6, .move (.t 11), none, []⟩]
def r208_2 : List VOper := [
  ⟨some 12, .move (.t 0), none, []⟩,
  ⟨some 13, .call true (.c (.fn 217 [])) [.t 12], none, []⟩,
  ⟨some 14, .not (.t 13), none, []⟩,
  ⟨some 15, .move (.t 14), none, []⟩,
  ⟨some 16, .move (.t 1), some (15, false), []⟩,
  ⟨some 17, .call true (.c (.fn 217 [])) [.t 16], some (15, false), []⟩,
  ⟨some 18, .not (.t 17), some (15, false), []⟩,
  ⟨some 19, .pick (.t 15) (.c (.d (.bool true))) (.t 18), none, []⟩]
def r208_3 : List VOper := [
  ⟨some 20, .move (.t 6), none, []⟩,
  ⟨some 4, .move (.t 20), none, []⟩,
  ⟨some 5, .move (.c (.d (.bool false))), none, []⟩]
def r208_4 : List VOper := [
  ⟨some 21, .move (.t 0), none, []⟩,
  ⟨some 22, .move (.t 1), none, []⟩,
  ⟨some 23, .call true (.c (.fn 218 [])) [.t 21, .t 22], none, []⟩,
  ⟨some 7, .move (.t 23), none, []⟩]
def r208_5 : List VOper := [
  ⟨some 8, .move (.c (.d (.int .i64 0))), none, []⟩]
def r208_6 : List VOper := [
  ⟨some 24, .move (.t 8), none, []⟩,
  ⟨some 25, .move (.t 7), none, []⟩,
  ⟨some 26, .len false (.t 25), none, []⟩,
  ⟨some 27, .bin .lss (.t 24) (.t 26), none, []⟩]
def r208_8 : List VOper := [
  ⟨some 9, .move (.c (.d (.bool true))), none, []⟩]
def r208_9 : List VOper := [
  ⟨some 10, .move (.c (.d (.int .i64 0))), none, []⟩]
def r208_10 : List VOper := [
  ⟨some 30, .move (.t 10), none, []⟩,
  ⟨some 31, .move (.t 7), none, []⟩,
  ⟨some 32, .len false (.t 31), none, []⟩,
  ⟨some 33, .bin .lss (.t 30) (.t 32), none, []⟩,
  ⟨some 34, .move (.t 33), none, []⟩,
  ⟨some 35, .move (.t 9), some (34, true), []⟩,
  ⟨some 36, .pick (.t 34) (.t 35) (.c (.d (.bool false))), none, []⟩]
def r208_12 : List VOper := [
  ⟨some 39, .move (.t 7), none, []⟩,
  ⟨some 40, .move (.t 10), none, []⟩,
  ⟨some 41, .indexAddr 1 none (.t 39) (.t 40), none, [0, 1]⟩,
  ⟨some 42, .load false 1 (.t 41), none, [2]⟩,
  ⟨some 43, .move (.t 7), none, []⟩,
  ⟨some 44, .move (.t 8), none, []⟩,
  ⟨some 45, .indexAddr 1 none (.t 43) (.t 44), none, [4, 5]⟩,
  ⟨some 46, .load false 1 (.t 45), none, [6]⟩,
  ⟨some 47, .call true (.c (.fn 50 [])) [.t 42, .t 46], none, [3, 7]⟩,
  ⟨some 48, .not (.t 47), none, [8]⟩,
  ⟨some 9, .move (.t 48), none, [0, 1, 2, 3, 4, 5, 6, 7, 8, 9]⟩]
def r208_11 : List VOper := [
  ⟨some 37, .move (.t 10), none, []⟩,
  ⟨some 38, .bin .add (.t 37) (.c (.d (.int .i64 1))), none, []⟩,
  ⟨some 10, .move (.t 38), none, []⟩]
def b208_1 : VCode := (.seq (.seq (.region false 0 [6, 7, 8, 9, 10, 36] r208_10) (.cond (.t 36) .skip (.exit 2))) (.seq (.block 3 (.region true 0 [6, 7, 8, 9, 10] r208_12)) (.region false 0 [6, 7, 8, 9, 10] r208_11)))
def r208_13 : List VOper := [
  ⟨some 49, .move (.t 9), none, []⟩]
def r208_14 : List VOper := [
  ⟨some 50, .move (.t 6), none, []⟩,
  ⟨some 51, .move (.t 7), none, []⟩,
  ⟨some 52, .move (.t 8), none, []⟩,
  ⟨some 53, .indexAddr 1 none (.t 51) (.t 52), none, []⟩,
  ⟨some 54, .load false 1 (.t 53), none, []⟩,
  ⟨some 55, .buildSlice 1 (.sl .nil []) 1 [(0, .t 54)], none, []⟩,
  ⟨some 56, .append 1 24 (.t 50) (.t 55), none, []⟩,
  ⟨some 6, .move (.t 56), none, []⟩]
def r208_7 : List VOper := [
  ⟨some 28, .move (.t 8), none, []⟩,
  ⟨some 29, .bin .add (.t 28) (.c (.d (.int .i64 1))), none, []⟩,
  ⟨some 8, .move (.t 29), none, []⟩]
def b208_0 : VCode := (.seq (.seq (.region false 0 [6, 7, 8, 27] r208_6) (.cond (.t 27) .skip (.exit 0))) (.seq (.block 1 (.seq (.region false 0 [6, 7, 8, 9] r208_8) (.seq (.seq (.region false 0 [6, 7, 8, 9, 10] r208_9) (.block 2 (.loop [6, 7, 8, 9, 10] b208_1))) (.seq (.region false 0 [6, 7, 8, 49] r208_13) (.cond (.t 49) (.region false 0 [6, 7, 8] r208_14) .skip))))) (.region false 0 [6, 7, 8] r208_7)))
def r208_15 : List VOper := [
  ⟨some 57, .move (.t 6), none, []⟩,
  ⟨some 58, .len false (.t 57), none, []⟩,
  ⟨some 59, .bin .gtr (.t 58) (.c (.d (.int .i64 60))), none, []⟩]
def r208_16 : List VOper := [
  ⟨some 60, .buildSlice 1 (.sl .nil []) 0 [], none, []⟩,
  ⟨some 4, .move (.t 60), none, []⟩,
  ⟨some 5, .move (.c (.d (.bool false))), none, []⟩]
def r208_17 : List VOper := [
  ⟨some 61, .move (.t 6), none, []⟩,
  ⟨some 4, .move (.t 61), none, []⟩,
  ⟨some 5, .move (.c (.d (.bool true))), none, []⟩]
def v208 : VFn := ⟨2, [.tmp 4, .tmp 5], (.seq (.region false 0 [0, 1] r208_0) (.seq (.region false 0 [0, 1, 6] r208_1) (.seq (.seq (.region false 0 [0, 1, 6, 19] r208_2) (.cond (.t 19) (.seq (.region false 0 [4, 5] r208_3) .ret) .skip)) (.seq (.region false 0 [6, 7] r208_4) (.seq (.seq (.region false 0 [6, 7, 8] r208_5) (.block 0 (.loop [6, 7, 8] b208_0))) (.seq (.seq (.region false 0 [6, 59] r208_15) (.cond (.t 59) (.seq (.region false 0 [4, 5] r208_16) .ret) .skip)) (.seq (.region false 0 [4, 5] r208_17) .ret)))))))⟩
/-! loop.example/g00461/spec.DrawSolves -/
def r209_0 : List VOper := [
  ⟨some 2, .move (.c (.d (.sl .nil []))), none, []⟩,
  ⟨some 3, .move (.c (.d (.sl .nil []))), none, []⟩,
  ⟨some 4, .move (.c (.d (.sl .nil []))), none, []⟩]
def r209_1 : List VOper := [
  ⟨some 10, .move (.t 0), none, []⟩,
  ⟨some 11, .call false (.c (.fn 156 [])) [.t 10], none, []⟩,
  ⟨some 5, .move (.t 11), none, []⟩]
def r209_2 : List VOper := [
  ⟨some 12, .move (.t 5), none, []⟩,
  ⟨some 13, .call false (.c (.fn 231 [])) [.t 12], none, []⟩,
  ⟨some 6, .move (.t 13), none, []⟩]
def r209_3 : List VOper := [
  ⟨some 14, .move (.t 5), none, []⟩,
  ⟨some 15, .call false (.c (.fn 231 [])) [.t 14], none, []⟩,
  ⟨some 7, .move (.t 15), none, []⟩]
def r209_4 : List VOper := [
  ⟨some 17, .move (.t 6), none, []⟩,
  ⟨some 18, .move (.t 7), none, []⟩,
  ⟨some 19, .call true (.c (.fn 208 [])) [.t 17, .t 18], none, []⟩,
  ⟨some 16, .move (.t 19), none, []⟩,
  ⟨some 20, .extract (.t 16) 0, none, []⟩,
  ⟨some 21, .extract (.t 16) 1, none, []⟩,
  ⟨some 8, .move (.t 20), none, []⟩,
  ⟨some 9, .move (.t 21), none, []⟩]
def r209_5 : List VOper := [
  ⟨some 22, .move (.t 8), none, []⟩,
  ⟨some 23, .len false (.t 22), none, []⟩,
  ⟨some 24, .bin .gtr (.t 23) (.c (.d (.int .i64 0))), none, []⟩,
  ⟨some 25, .move (.t 24), none, []⟩,
  ⟨some 26, .move (.t 5), some (25, true), []⟩,
  ⟨some 27, .call false (.c (.fn 162 [])) [.t 26, .c (.d (.int .i64 3))], some (25, true), []⟩,
  ⟨some 28, .not (.t 27), some (25, true), []⟩,
  ⟨some 29, .pick (.t 25) (.t 28) (.c (.d (.bool false))), none, []⟩]
def r209_6 : List VOper := [
  ⟨some 30, .move (.t 6), none, []⟩,
  ⟨some 31, .move (.t 7), none, []⟩,
  ⟨some 32, .buildSlice 1 (.int .i64 0) 0 [], none, []⟩,
  ⟨some 33, .move (.t 8), none, []⟩,
  ⟨some 34, .move (.t 5), none, []⟩,
  ⟨some 35, .move (.t 8), none, []⟩,
  ⟨some 36, .len false (.t 35), none, []⟩,
  ⟨some 37, .call false (.c (.fn 159 [])) [.t 34, .t 36], none, []⟩,
  ⟨some 38, .indexAddr 1 none (.t 33) (.t 37), none, []⟩,
  ⟨some 39, .load false 1 (.t 38), none, []⟩,
  ⟨some 40, .append 1 8 (.t 32) (.t 39), none, []⟩,
  ⟨some 2, .move (.t 30), none, []⟩,
  ⟨some 3, .move (.t 31), none, []⟩,
  ⟨some 4, .move (.t 40), none, []⟩]
def r209_7 : List VOper := [
  ⟨some 41, .move (.t 6), none, []⟩,
  ⟨some 42, .move (.t 7), none, []⟩,
  ⟨some 43, .move (.t 5), none, []⟩,
  ⟨some 44, .call false (.c (.fn 203 [])) [.t 43], none, []⟩,
  ⟨some 2, .move (.t 41), none, []⟩,
  ⟨some 3, .move (.t 42), none, []⟩,
  ⟨some 4, .move (.t 44), none, []⟩]
def v209 : VFn := ⟨1, [.tmp 2, .tmp 3, .tmp 4], (.seq (.region false 0 [0] r209_0) (.seq (.region false 0 [5] r209_1) (.seq (.region false 0 [5, 6] r209_2) (.seq (.region false 0 [5, 6, 7] r209_3) (.seq (.region false 0 [5, 6, 7, 8] r209_4) (.seq (.seq (.region false 0 [5, 6, 7, 8, 29] r209_5) (.cond (.t 29) (.seq (.region false 0 [2, 3, 4] r209_6) .ret) .skip)) (.seq (.region false 0 [2, 3, 4] r209_7) .ret)))))))⟩
/-! loop.example/g00461/spec.DrawLeast -/
def r210_0 : List VOper := [
  ⟨some 2, .move (.c (.d (.sl .nil []))), none, []⟩,
  ⟨some 3, .move (.c (.d (.sl .nil []))), none, []⟩]
def r210_1 : List VOper := [
  ⟨some 7, .move (.t 0), none, []⟩,
  ⟨some 8, .call false (.c (.fn 156 [])) [.t 7], none, []⟩,
  ⟨some 4, .move (.t 8), none, []⟩]
def r210_2 : List VOper := [
  ⟨some 9, .move (.t 4), none, []⟩,
  ⟨some 10, .call false (.c (.fn 203 [])) [.t 9], none, []⟩,
  ⟨some 5, .move (.t 10), none, []⟩]
def r210_3 : List VOper := [
  ⟨some 11, .buildSlice 1 (.int .i64 0) 0 [], none, []⟩,
  ⟨some 12, .move (.t 5), none, []⟩,
  ⟨some 13, .append 1 8 (.t 11) (.t 12), none, []⟩,
  ⟨some 6, .move (.t 13), none, []⟩]
def r210_4 : List VOper := [
  ⟨some 14, .move (.t 6), none, []⟩,
  ⟨some 15, .len false (.t 14), none, []⟩,
  ⟨some 16, .bin .gtr (.t 15) (.c (.d (.int .i64 0))), none, []⟩,
  ⟨some 17, .move (.t 16), none, []⟩,
  ⟨some 18, .move (.t 4), some (17, true), []⟩,
  ⟨some 19, .call false (.c (.fn 162 [])) [.t 18, .c (.d (.int .i64 2))], some (17, true), []⟩,
  ⟨some 20, .pick (.t 17) (.t 19) (.c (.d (.bool false))), none, []⟩]
def r210_5 : List VOper := [
  ⟨some 21, .move (.t 6), none, []⟩,
  ⟨some 22, .move (.t 6), none, []⟩,
  ⟨some 23, .indexAddr 1 none (.t 22) (.c (.d (.int .i64 0))), none, []⟩,
  ⟨some 24, .load false 1 (.t 23), none, []⟩,
  ⟨some 25, .bin .add (.t 24) (.c (.d (.int .i64 1))), none, []⟩,
  ⟨some 26, .indexAddr 1 none (.t 21) (.c (.d (.int .i64 0))), none, []⟩,
  ⟨none, .store false 1 (.t 26) (.t 25), none, []⟩]
def r210_6 : List VOper := [
  ⟨some 27, .move (.t 4), none, []⟩,
  ⟨some 28, .call false (.c (.fn 162 [])) [.t 27, .c (.d (.int .i64 4))], none, []⟩]
def r210_7 : List VOper := [
  ⟨some 29, .move (.t 5), none, []⟩,
  ⟨some 30, .move (.t 4), none, []⟩,
  ⟨some 31, .call false (.c (.fn 203 [])) [.t 30], none, []⟩,
  ⟨some 2, .move (.t 29), none, []⟩,
  ⟨some 3, .move (.t 31), none, []⟩]
def r210_8 : List VOper := [
  ⟨some 32, .move (.t 5), none, []⟩,
  ⟨some 33, .move (.t 6), none, []⟩,
  ⟨some 2, .move (.t 32), none, []⟩,
  ⟨some 3, .move (.t 33), none, []⟩]
def v210 : VFn := ⟨1, [.tmp 2, .tmp 3], (.seq (.region false 0 [0] r210_0) (.seq (.region false 0 [4] r210_1) (.seq (.region false 0 [4, 5] r210_2) (.seq (.region false 0 [4, 5, 6] r210_3) (.seq (.seq (.region false 0 [4, 5, 6, 20] r210_4) (.cond (.t 20) (.region false 0 [4, 5, 6] r210_5) .skip)) (.seq (.seq (.region false 0 [4, 5, 6, 28] r210_6) (.cond (.t 28) (.seq (.region false 0 [2, 3] r210_7) .ret) .skip)) (.seq (.region false 0 [2, 3] r210_8) .ret)))))))⟩
/-! loop.example/g00461/spec.DrawSum -/
def r211_0 : List VOper := [
  ⟨some 2, .move (.c (.d (.sl .nil []))), none, []⟩,
  ⟨some 3, .move (.c (.d (.int .i64 0))), none, []⟩]
def r211_1 : List VOper := [
  ⟨some 7, .move (.t 0), none, []⟩,
  ⟨some 8, .call false (.c (.fn 156 [])) [.t 7], none, []⟩,
  ⟨some 4, .move (.t 8), none, []⟩]
def r211_2 : List VOper := [
  ⟨some 9, .buildSlice 1 (.sl .nil []) 0 [], none, []⟩,
  ⟨some 5, .move (.t 9), none, []⟩]
def r211_3 : List VOper := [
  ⟨some 6, .move (.c (.d (.int .i64 0))), none, []⟩]
def r211_4 : List VOper := [
  ⟨some 10, .move (.t 6), none, []⟩,
  ⟨some 11, .move (.t 4), none, []⟩,
  ⟨some 12, .call false (.c (.fn 159 [])) [.t 11, .c (.d (.int .i64 4))], none, []⟩,
  ⟨some 13, .bin .lss (.t 10) (.t 12), none, []⟩]
def r211_6 : List VOper := [
  ⟨some 16, .move (.t 5), none, []⟩,
  ⟨some 17, .move (.t 4), none, []⟩,
  ⟨some 18, .call false (.c (.fn 203 [])) [.t 17], none, []⟩,
  ⟨some 19, .buildSlice 1 (.sl .nil []) 1 [(0, .t 18)], none, []⟩,
  ⟨some 20, .append 1 24 (.t 16) (.t 19), none, []⟩,
  ⟨some 5, .move (.t 20), none, []⟩]
def r211_5 : List VOper := [
  ⟨some 14, .move (.t 6), none, []⟩,
  ⟨some 15, .bin .add (.t 14) (.c (.d (.int .i64 1))), none, []⟩,
  ⟨some 6, .move (.t 15), none, []⟩]
def b211_0 : VCode := (.seq (.seq (.region false 0 [4, 5, 6, 13] r211_4) (.cond (.t 13) .skip (.exit 0))) (.seq (.block 1 (.region false 0 [4, 5, 6] r211_6)) (.region false 0 [4, 5, 6] r211_5)))
def r211_7 : List VOper := [
  ⟨some 21, .move (.t 5), none, []⟩,
  ⟨some 22, .move (.t 4), none, []⟩,
  ⟨some 23, .call false (.c (.fn 159 [])) [.t 22, .c (.d (.int .i64 6))], none, []⟩,
  ⟨some 24, .bin .sub (.t 23) (.c (.d (.int .i64 1))), none, []⟩,
  ⟨some 2, .move (.t 21), none, []⟩,
  ⟨some 3, .move (.t 24), none, []⟩]
def v211 : VFn := ⟨1, [.tmp 2, .tmp 3], (.seq (.region false 0 [0] r211_0) (.seq (.region false 0 [4] r211_1) (.seq (.region false 0 [4, 5] r211_2) (.seq (.seq (.region false 0 [4, 5, 6] r211_3) (.block 0 (.loop [4, 5, 6] b211_0))) (.seq (.region false 0 [2, 3] r211_7) .ret)))))⟩
/-! loop.example/g00461/impl.Sum -/
def r212_0 : List VOper := [
  ⟨some 4, .move (.c (.d (.sl .nil []))), none, []⟩]
def r212_1 : List VOper := [
  ⟨some 9, .move (.t 1), none, []⟩,
  ⟨some 10, .call true (.c (.fn 30 [])) [.t 9, .c (.d (.int .i64 1)), .c (.d (.int .i64 1000))], none, []⟩,
  ⟨some 11, .not (.t 10), none, []⟩]
def r212_2 : List VOper := [
  ⟨some 4, .move (.c (.d (.sl .nil []))), none, []⟩]
def r212_3 : List VOper := [
  ⟨some 12, .move (.t 1), none, []⟩,
  ⟨some 13, .makeSlice 0 1 8 (.int .i64 0) (.t 12), none, []⟩,
  ⟨some 5, .move (.t 13), none, []⟩]
def r212_4 : List VOper := [
  ⟨some 14, .move (.t 0), none, []⟩,
  ⟨some 15, .len false (.t 14), none, []⟩,
  ⟨some 16, .move (.c (.d (.int .i64 0))), none, []⟩]
def r212_5 : List VOper := [
  ⟨some 17, .bin .lss (.t 16) (.t 15), none, []⟩]
def r212_6 : List VOper := [
  ⟨some 18, .indexAddr 1 none (.t 14) (.t 16), none, []⟩,
  ⟨some 19, .load false 1 (.t 18), none, []⟩,
  ⟨some 7, .move (.t 19), none, []⟩]
def r212_7 : List VOper := [
  ⟨some 8, .move (.c (.d (.int .i64 0))), none, []⟩]
def r212_8 : List VOper := [
  ⟨some 20, .move (.t 8), none, []⟩,
  ⟨some 21, .move (.t 1), none, []⟩,
  ⟨some 22, .bin .lss (.t 20) (.t 21), none, []⟩,
  ⟨some 23, .move (.t 22), none, []⟩,
  ⟨some 24, .move (.t 8), some (23, true), []⟩,
  ⟨some 25, .move (.t 7), some (23, true), []⟩,
  ⟨some 26, .len false (.t 25), some (23, true), []⟩,
  ⟨some 27, .bin .lss (.t 24) (.t 26), some (23, true), []⟩,
  ⟨some 28, .pick (.t 23) (.t 27) (.c (.d (.bool false))), none, []⟩]
def r212_10 : List VOper := [
  ⟨some 31, .move (.t 5), none, []⟩,
  ⟨some 32, .move (.t 8), none, []⟩,
  ⟨some 33, .indexAddr 1 none (.t 31) (.t 32), none, [0, 1]⟩,
  ⟨some 34, .load false 1 (.t 33), none, [2]⟩,
  ⟨some 35, .move (.t 7), none, []⟩,
  ⟨some 36, .move (.t 8), none, []⟩,
  ⟨some 37, .indexAddr 1 none (.t 35) (.t 36), none, [4, 5]⟩,
  ⟨some 38, .load false 1 (.t 37), none, [6]⟩,
  ⟨some 39, .bin .add (.t 34) (.t 38), none, [3, 7]⟩,
  ⟨some 40, .indexAddr 1 none (.t 31) (.t 32), none, [0, 1, 2, 3, 4, 5, 6, 7, 8]⟩,
  ⟨none, .store false 1 (.t 40) (.t 39), none, [0, 1, 2, 3, 4, 5, 6, 7, 8, 9]⟩]
def r212_9 : List VOper := [
  ⟨some 29, .move (.t 8), none, []⟩,
  ⟨some 30, .bin .add (.t 29) (.c (.d (.int .i64 1))), none, []⟩,
  ⟨some 8, .move (.t 30), none, []⟩]
def b212_1 : VCode := (.seq (.seq (.region false 0 [1, 5, 7, 8, 14, 15, 16, 28] r212_8) (.cond (.t 28) .skip (.exit 2))) (.seq (.block 3 (.region true 0 [1, 5, 7, 8, 14, 15, 16] r212_10)) (.region false 0 [1, 5, 7, 8, 14, 15, 16] r212_9)))
def r212_11 : List VOper := [
  ⟨some 41, .bin .add (.t 16) (.c (.d (.int .i64 1))), none, []⟩,
  ⟨some 16, .move (.t 41), none, []⟩]
def b212_0 : VCode := (.seq (.region false 0 [1, 5, 14, 15, 16, 17] r212_5) (.seq (.cond (.t 17) .skip (.exit 0)) (.seq (.block 1 (.seq (.region false 0 [1, 5, 7, 14, 15, 16] r212_6) (.seq (.region false 0 [1, 5, 7, 8, 14, 15, 16] r212_7) (.block 2 (.loop [1, 5, 7, 8, 14, 15, 16] b212_1))))) (.region false 0 [1, 5, 14, 15, 16] r212_11))))
def r212_12 : List VOper := [
  ⟨some 42, .move (.t 5), none, []⟩,
  ⟨some 4, .move (.t 42), none, []⟩]
def v212 : VFn := ⟨2, [.tmp 4], (.seq (.region false 0 [0, 1] r212_0) (.seq (.seq (.region false 0 [0, 1, 11] r212_1) (.cond (.t 11) (.seq (.region false 0 [4] r212_2) .ret) .skip)) (.seq (.region false 1 [0, 1, 5] r212_3) (.seq (.seq (.region false 0 [1, 5, 14, 15, 16] r212_4) (.block 0 (.loop [1, 5, 14, 15, 16] b212_0))) (.seq (.region false 0 [4] r212_12) .ret)))))⟩
/-! loop.example/g00461/spec.Sum -/
def r213_0 : List VOper := [
  ⟨some 4, .move (.c (.d (.sl .nil []))), none, []⟩]
def r213_1 : List VOper := [
  ⟨some 9, .buildSlice 1 (.int .i64 0) 0 [], none, []⟩,
  ⟨some 5, .move (.t 9), none, []⟩]
def r213_2 : List VOper := [
  ⟨some 6, .move (.c (.d (.int .i64 0))), none, []⟩]
def r213_3 : List VOper := [
  ⟨some 10, .move (.t 6), none, []⟩,
  ⟨some 11, .move (.t 1), none, []⟩,
  ⟨some 12, .bin .lss (.t 10) (.t 11), none, []⟩,
  ⟨some 13, .move (.t 12), none, []⟩,
  ⟨some 14, .move (.t 1), some (13, true), []⟩,
  ⟨some 15, .bin .leq (.t 14) (.c (.d (.int .i64 1000))), some (13, true), []⟩,
  ⟨some 16, .pick (.t 13) (.t 15) (.c (.d (.bool false))), none, []⟩]
def r213_5 : List VOper := [
  ⟨some 7, .move (.c (.d (.int .i64 0))), none, []⟩]
def r213_6 : List VOper := [
  ⟨some 8, .move (.c (.d (.int .i64 0))), none, []⟩]
def r213_7 : List VOper := [
  ⟨some 19, .move (.t 8), none, []⟩,
  ⟨some 20, .move (.t 0), none, []⟩,
  ⟨some 21, .len false (.t 20), none, []⟩,
  ⟨some 22, .bin .lss (.t 19) (.t 21), none, []⟩]
def r213_9 : List VOper := [
  ⟨some 25, .move (.t 6), none, []⟩,
  ⟨some 26, .move (.t 0), none, []⟩,
  ⟨some 27, .move (.t 8), none, []⟩,
  ⟨some 28, .indexAddr 1 none (.t 26) (.t 27), none, []⟩,
  ⟨some 29, .load false 1 (.t 28), none, []⟩,
  ⟨some 30, .len false (.t 29), none, []⟩,
  ⟨some 31, .bin .lss (.t 25) (.t 30), none, []⟩]
def r213_10 : List VOper := [
  ⟨some 32, .move (.t 7), none, []⟩,
  ⟨some 33, .move (.t 0), none, []⟩,
  ⟨some 34, .move (.t 8), none, []⟩,
  ⟨some 35, .indexAddr 1 none (.t 33) (.t 34), none, []⟩,
  ⟨some 36, .load false 1 (.t 35), none, []⟩,
  ⟨some 37, .move (.t 6), none, []⟩,
  ⟨some 38, .indexAddr 1 none (.t 36) (.t 37), none, []⟩,
  ⟨some 39, .load false 1 (.t 38), none, []⟩,
  ⟨some 40, .bin .add (.t 32) (.t 39), none, []⟩,
  ⟨some 7, .move (.t 40), none, []⟩]
def r213_8 : List VOper := [
  ⟨some 23, .move (.t 8), none, []⟩,
  ⟨some 24, .bin .add (.t 23) (.c (.d (.int .i64 1))), none, []⟩,
  ⟨some 8, .move (.t 24), none, []⟩]
def b213_1 : VCode := (.seq (.seq (.region false 0 [0, 1, 5, 6, 7, 8, 22] r213_7) (.cond (.t 22) .skip (.exit 2))) (.seq (.block 3 (.seq (.region false 0 [0, 1, 5, 6, 7, 8, 31] r213_9) (.cond (.t 31) (.region false 0 [0, 1, 5, 6, 7, 8] r213_10) .skip))) (.region false 0 [0, 1, 5, 6, 7, 8] r213_8)))
def r213_11 : List VOper := [
  ⟨some 41, .move (.t 5), none, []⟩,
  ⟨some 42, .move (.t 7), none, []⟩,
  ⟨some 43, .buildSlice 1 (.int .i64 0) 1 [(0, .t 42)], none, []⟩,
  ⟨some 44, .append 1 8 (.t 41) (.t 43), none, []⟩,
  ⟨some 5, .move (.t 44), none, []⟩]
def r213_4 : List VOper := [
  ⟨some 17, .move (.t 6), none, []⟩,
  ⟨some 18, .bin .add (.t 17) (.c (.d (.int .i64 1))), none, []⟩,
  ⟨some 6, .move (.t 18), none, []⟩]
def b213_0 : VCode := (.seq (.seq (.region false 0 [0, 1, 5, 6, 16] r213_3) (.cond (.t 16) .skip (.exit 0))) (.seq (.block 1 (.seq (.region false 0 [0, 1, 5, 6, 7] r213_5) (.seq (.seq (.region false 0 [0, 1, 5, 6, 7, 8] r213_6) (.block 2 (.loop [0, 1, 5, 6, 7, 8] b213_1))) (.region false 0 [0, 1, 5, 6] r213_11)))) (.region false 0 [0, 1, 5, 6] r213_4)))
def r213_12 : List VOper := [
  ⟨some 45, .move (.t 5), none, []⟩,
  ⟨some 4, .move (.t 45), none, []⟩]
def v213 : VFn := ⟨2, [.tmp 4], (.seq (.region false 0 [0, 1] r213_0) (.seq (.region false 0 [0, 1, 5] r213_1) (.seq (.seq (.region false 0 [0, 1, 5, 6] r213_2) (.block 0 (.loop [0, 1, 5, 6] b213_0))) (.seq (.region false 0 [4] r213_12) .ret))))⟩
/-! loop.example/g00461/laws.at -/
def r214_0 : List VOper := [
  ⟨some 4, .move (.c (.d (.int .i64 0))), none, []⟩]
def r214_1 : List VOper := [
  ⟨some 5, .move (.t 1), none, []⟩,
  ⟨some 6, .move (.t 0), none, []⟩,
  ⟨some 7, .len false (.t 6), none, []⟩,
  ⟨some 8, .bin .lss (.t 5) (.t 7), none, []⟩]
def r214_2 : List VOper := [
  ⟨some 9, .move (.t 0), none, []⟩,
  ⟨some 10, .move (.t 1), none, []⟩,
  ⟨some 11, .indexAddr 1 none (.t 9) (.t 10), none, []⟩,
  ⟨some 12, .load false 1 (.t 11), none, []⟩,
  ⟨some 13, .conv (.kind .i64) (.t 12), none, []⟩,
  ⟨some 4, .move (.t 13), none, []⟩]
def r214_3 : List VOper := [
  ⟨some 14, .move (.t 1), none, []⟩,
  ⟨some 15, .bin .mul (.t 14) (.c (.d (.int .i64 7))), none, []⟩,
  ⟨some 16, .move (.t 0), none, []⟩,
  ⟨some 17, .len false (.t 16), none, []⟩,
  ⟨some 18, .bin .add (.t 15) (.t 17), none, []⟩,
  ⟨some 19, .bin .rem (.t 18) (.c (.d (.int .i64 256))), none, []⟩,
  ⟨some 4, .move (.t 19), none, []⟩]
def v214 : VFn := ⟨2, [.tmp 4], (.seq (.region false 0 [0, 1] r214_0) (.seq (.seq (.region false 0 [0, 1, 8] r214_1) (.cond (.t 8) (.seq (.region false 0 [4] r214_2) .ret) .skip)) (.seq (.region false 0 [4] r214_3) .ret)))⟩
/-! loop.example/g00461/laws.beneath -/
def r215_0 : List VOper := [
  ⟨some 4, .move (.c (.d (.bool false))), none, []⟩]
def r215_1 : List VOper := [
  ⟨some 5, .move (.c (.d (.int .i64 0))), none, []⟩]
def r215_2 : List VOper := [
  ⟨some 6, .move (.t 5), none, []⟩,
  ⟨some 7, .move (.t 0), none, []⟩,
  ⟨some 8, .len false (.t 7), none, []⟩,
  ⟨some 9, .bin .lss (.t 6) (.t 8), none, []⟩]
def r215_4 : List VOper := [
  ⟨some 12, .move (.t 0), none, []⟩,
  ⟨some 13, .move (.t 5), none, []⟩,
  ⟨some 14, .indexAddr 1 none (.t 12) (.t 13), none, []⟩,
  ⟨some 15, .load false 1 (.t 14), none, []⟩,
  ⟨some 16, .move (.t 1), none, []⟩,
  ⟨some 17, .call true (.c (.fn 188 [])) [.t 15, .t 16], none, []⟩,
  ⟨some 18, .move (.t 17), none, []⟩,
  ⟨some 19, .move (.t 0), some (18, false), []⟩,
  ⟨some 20, .move (.t 5), some (18, false), []⟩,
  ⟨some 21, .indexAddr 1 none (.t 19) (.t 20), some (18, false), []⟩,
  ⟨some 22, .load false 1 (.t 21), some (18, false), []⟩,
  ⟨some 23, .move (.t 1), some (18, false), []⟩,
  ⟨some 24, .call true (.c (.fn 50 [])) [.t 22, .t 23], some (18, false), []⟩,
  ⟨some 25, .pick (.t 18) (.c (.d (.bool true))) (.t 24), none, []⟩]
def r215_5 : List VOper := [
  ⟨some 4, .move (.c (.d (.bool true))), none, []⟩]
def r215_3 : List VOper := [
  ⟨some 10, .move (.t 5), none, []⟩,
  ⟨some 11, .bin .add (.t 10) (.c (.d (.int .i64 1))), none, []⟩,
  ⟨some 5, .move (.t 11), none, []⟩]
def b215_0 : VCode := (.seq (.seq (.region false 0 [0, 1, 5, 9] r215_2) (.cond (.t 9) .skip (.exit 0))) (.seq (.block 1 (.seq (.region false 0 [0, 1, 5, 25] r215_4) (.cond (.t 25) (.seq (.region false 0 [4] r215_5) .ret) .skip))) (.region false 0 [0, 1, 5] r215_3)))
def r215_6 : List VOper := [
  ⟨some 4, .move (.c (.d (.bool false))), none, []⟩]
def v215 : VFn := ⟨2, [.tmp 4], (.seq (.region false 0 [0, 1] r215_0) (.seq (.seq (.region false 0 [0, 1, 5] r215_1) (.block 0 (.loop [0, 1, 5] b215_0))) (.seq (.region false 0 [4] r215_6) .ret)))⟩
/-! loop.example/g00461/laws.zero -/
def r216_0 : List VOper := [
  ⟨some 2, .move (.c (.d (.bool false))), none, []⟩]
def r216_1 : List VOper := [
  ⟨some 3, .move (.c (.d (.int .i64 0))), none, []⟩]
def r216_2 : List VOper := [
  ⟨some 4, .move (.t 3), none, []⟩,
  ⟨some 5, .move (.t 0), none, []⟩,
  ⟨some 6, .len false (.t 5), none, []⟩,
  ⟨some 7, .bin .lss (.t 4) (.t 6), none, []⟩]
def r216_4 : List VOper := [
  ⟨some 10, .move (.t 0), none, []⟩,
  ⟨some 11, .move (.t 3), none, []⟩,
  ⟨some 12, .indexAddr 1 none (.t 10) (.t 11), none, []⟩,
  ⟨some 13, .load false 1 (.t 12), none, []⟩,
  ⟨some 14, .bin .neq (.t 13) (.c (.d (.int .i64 0))), none, []⟩]
def r216_5 : List VOper := [
  ⟨some 2, .move (.c (.d (.bool false))), none, []⟩]
def r216_3 : List VOper := [
  ⟨some 8, .move (.t 3), none, []⟩,
  ⟨some 9, .bin .add (.t 8) (.c (.d (.int .i64 1))), none, []⟩,
  ⟨some 3, .move (.t 9), none, []⟩]
def b216_0 : VCode := (.seq (.seq (.region false 0 [0, 3, 7] r216_2) (.cond (.t 7) .skip (.exit 0))) (.seq (.block 1 (.seq (.region false 0 [0, 3, 14] r216_4) (.cond (.t 14) (.seq (.region false 0 [2] r216_5) .ret) .skip))) (.region false 0 [0, 3] r216_3)))
def r216_6 : List VOper := [
  ⟨some 2, .move (.c (.d (.bool true))), none, []⟩]
def v216 : VFn := ⟨1, [.tmp 2], (.seq (.region false 0 [0] r216_0) (.seq (.seq (.region false 0 [0, 3] r216_1) (.block 0 (.loop [0, 3] b216_0))) (.seq (.region false 0 [2] r216_6) .ret)))⟩
/-! loop.example/g00461/spec.l7Fine -/
def r217_0 : List VOper := [
  ⟨some 2, .move (.c (.d (.bool false))), none, []⟩]
def r217_1 : List VOper := [
  ⟨some 3, .move (.c (.d (.int .i64 0))), none, []⟩]
def r217_2 : List VOper := [
  ⟨some 4, .move (.t 3), none, []⟩,
  ⟨some 5, .move (.t 0), none, []⟩,
  ⟨some 6, .len false (.t 5), none, []⟩,
  ⟨some 7, .bin .lss (.t 4) (.t 6), none, []⟩]
def r217_4 : List VOper := [
  ⟨some 10, .move (.t 0), none, []⟩,
  ⟨some 11, .move (.t 3), none, []⟩,
  ⟨some 12, .indexAddr 1 none (.t 10) (.t 11), none, []⟩,
  ⟨some 13, .load false 1 (.t 12), none, []⟩,
  ⟨some 14, .call true (.c (.fn 31 [])) [.t 13, .c (.d (.int .i64 1)), .c (.d (.int .i64 4))], none, []⟩,
  ⟨some 15, .not (.t 14), none, []⟩]
def r217_5 : List VOper := [
  ⟨some 2, .move (.c (.d (.bool false))), none, []⟩]
def r217_3 : List VOper := [
  ⟨some 8, .move (.t 3), none, []⟩,
  ⟨some 9, .bin .add (.t 8) (.c (.d (.int .i64 1))), none, []⟩,
  ⟨some 3, .move (.t 9), none, []⟩]
def b217_0 : VCode := (.seq (.seq (.region false 0 [0, 3, 7] r217_2) (.cond (.t 7) .skip (.exit 0))) (.seq (.block 1 (.seq (.region false 0 [0, 3, 15] r217_4) (.cond (.t 15) (.seq (.region false 0 [2] r217_5) .ret) .skip))) (.region false 0 [0, 3] r217_3)))
def r217_6 : List VOper := [
  ⟨some 16, .move (.t 0), none, []⟩,
  ⟨some 17, .len false (.t 16), none, []⟩,
  ⟨some 18, .call true (.c (.fn 31 [])) [.t 17, .c (.d (.int .i64 1)), .c (.d (.int .i64 5))], none, []⟩,
  ⟨some 2, .move (.t 18), none, []⟩]
def v217 : VFn := ⟨1, [.tmp 2], (.seq (.region false 0 [0] r217_0) (.seq (.seq (.region false 0 [0, 3] r217_1) (.block 0 (.loop [0, 3] b217_0))) (.seq (.region false 0 [2] r217_6) .ret)))⟩
/-! loop.example/g00461/spec.l7All -/
def r218_0 : List VOper := [
  ⟨some 4, .move (.c (.d (.sl .nil []))), none, []⟩]
def r218_1 : List VOper := [
  ⟨some 12, .buildSlice 1 (.sl .nil []) 0 [], none, []⟩,
  ⟨some 5, .move (.t 12), none, []⟩]
def r218_2 : List VOper := [
  ⟨some 13, .move (.t 0), none, []⟩,
  ⟨some 14, .len false (.t 13), none, []⟩,
  ⟨some 15, .move (.t 1), none, []⟩,
  ⟨some 16, .call true (.c (.fn 219 [])) [.t 15], none, []⟩,
  ⟨some 17, .call true (.c (.fn 220 [])) [.t 14, .t 16], none, []⟩,
  ⟨some 6, .move (.t 17), none, []⟩]
def r218_3 : List VOper := [
  ⟨some 18, .move (.t 1), none, []⟩,
  ⟨some 19, .len false (.t 18), none, []⟩,
  ⟨some 20, .move (.t 0), none, []⟩,
  ⟨some 21, .call true (.c (.fn 219 [])) [.t 20], none, []⟩,
  ⟨some 22, .call true (.c (.fn 220 [])) [.t 19, .t 21], none, []⟩,
  ⟨some 7, .move (.t 22), none, []⟩]
def r218_4 : List VOper := [
  ⟨some 8, .move (.c (.d (.int .i64 1))), none, []⟩]
def r218_5 : List VOper := [
  ⟨some 23, .move (.t 8), none, []⟩,
  ⟨some 24, .move (.t 6), none, []⟩,
  ⟨some 25, .len false (.t 24), none, []⟩,
  ⟨some 26, .bin .lss (.t 23) (.t 25), none, []⟩]
def r218_7 : List VOper := [
  ⟨some 29, .move (.t 0), none, []⟩,
  ⟨some 30, .move (.t 6), none, []⟩,
  ⟨some 31, .move (.t 8), none, []⟩,
  ⟨some 32, .indexAddr 1 none (.t 30) (.t 31), none, []⟩,
  ⟨some 33, .load false 1 (.t 32), none, []⟩,
  ⟨some 34, .call true (.c (.fn 48 [])) [.t 29, .t 33, .c (.d (.int .i64 0))], none, []⟩,
  ⟨some 9, .move (.t 34), none, []⟩]
def r218_8 : List VOper := [
  ⟨some 10, .move (.c (.d (.int .i64 1))), none, []⟩]
def r218_9 : List VOper := [
  ⟨some 35, .move (.t 10), none, []⟩,
  ⟨some 36, .move (.t 7), none, []⟩,
  ⟨some 37, .len false (.t 36), none, []⟩,
  ⟨some 38, .bin .lss (.t 35) (.t 37), none, []⟩]
def r218_11 : List VOper := [
  ⟨some 41, .move (.t 1), none, []⟩,
  ⟨some 42, .move (.t 7), none, []⟩,
  ⟨some 43, .move (.t 10), none, []⟩,
  ⟨some 44, .indexAddr 1 none (.t 42) (.t 43), none, []⟩,
  ⟨some 45, .load false 1 (.t 44), none, []⟩,
  ⟨some 46, .call true (.c (.fn 48 [])) [.t 41, .t 45, .c (.d (.int .i64 0))], none, []⟩,
  ⟨some 47, .move (.t 9), none, []⟩,
  ⟨some 48, .bin .eql (.t 46) (.t 47), none, []⟩]
def r218_12 : List VOper := [
  ⟨some 49, .buildSlice 1 (.int .i64 0) 0 [], none, []⟩,
  ⟨some 50, .move (.t 6), none, []⟩,
  ⟨some 51, .move (.t 8), none, []⟩,
  ⟨some 52, .indexAddr 1 none (.t 50) (.t 51), none, []⟩,
  ⟨some 53, .load false 1 (.t 52), none, []⟩,
  ⟨some 54, .append 1 8 (.t 49) (.t 53), none, []⟩,
  ⟨some 11, .move (.t 54), none, []⟩]
def r218_13 : List VOper := [
  ⟨some 55, .move (.t 5), none, []⟩,
  ⟨some 56, .move (.t 11), none, []⟩,
  ⟨some 57, .move (.t 7), none, []⟩,
  ⟨some 58, .move (.t 10), none, []⟩,
  ⟨some 59, .indexAddr 1 none (.t 57) (.t 58), none, []⟩,
  ⟨some 60, .load false 1 (.t 59), none, []⟩,
  ⟨some 61, .append 1 8 (.t 56) (.t 60), none, []⟩,
  ⟨some 62, .buildSlice 1 (.sl .nil []) 1 [(0, .t 61)], none, []⟩,
  ⟨some 63, .append 1 24 (.t 55) (.t 62), none, []⟩,
  ⟨some 5, .move (.t 63), none, []⟩]
def r218_10 : List VOper := [
  ⟨some 39, .move (.t 10), none, []⟩,
  ⟨some 40, .bin .add (.t 39) (.c (.d (.int .i64 1))), none, []⟩,
  ⟨some 10, .move (.t 40), none, []⟩]
def b218_1 : VCode := (.seq (.seq (.region false 0 [0, 1, 5, 6, 7, 8, 9, 10, 38] r218_9) (.cond (.t 38) .skip (.exit 2))) (.seq (.block 3 (.seq (.region false 0 [0, 1, 5, 6, 7, 8, 9, 10, 48] r218_11) (.cond (.t 48) (.seq (.region false 0 [0, 1, 5, 6, 7, 8, 9, 10, 11] r218_12) (.region false 0 [0, 1, 5, 6, 7, 8, 9, 10] r218_13)) .skip))) (.region false 0 [0, 1, 5, 6, 7, 8, 9, 10] r218_10)))
def r218_6 : List VOper := [
  ⟨some 27, .move (.t 8), none, []⟩,
  ⟨some 28, .bin .add (.t 27) (.c (.d (.int .i64 1))), none, []⟩,
  ⟨some 8, .move (.t 28), none, []⟩]
def b218_0 : VCode := (.seq (.seq (.region false 0 [0, 1, 5, 6, 7, 8, 26] r218_5) (.cond (.t 26) .skip (.exit 0))) (.seq (.block 1 (.seq (.region false 0 [0, 1, 5, 6, 7, 8, 9] r218_7) (.seq (.region false 0 [0, 1, 5, 6, 7, 8, 9, 10] r218_8) (.block 2 (.loop [0, 1, 5, 6, 7, 8, 9, 10] b218_1))))) (.region false 0 [0, 1, 5, 6, 7, 8] r218_6)))
def r218_14 : List VOper := [
  ⟨some 64, .move (.t 5), none, []⟩,
  ⟨some 4, .move (.t 64), none, []⟩]
def v218 : VFn := ⟨2, [.tmp 4], (.seq (.region false 0 [0, 1] r218_0) (.seq (.region false 0 [0, 1, 5] r218_1) (.seq (.region false 0 [0, 1, 5, 6] r218_2) (.seq (.region false 0 [0, 1, 5, 6, 7] r218_3) (.seq (.seq (.region false 0 [0, 1, 5, 6, 7, 8] r218_4) (.block 0 (.loop [0, 1, 5, 6, 7, 8] b218_0))) (.seq (.region false 0 [4] r218_14) .ret))))))⟩
/-! loop.example/g00461/spec.l7Top -/
def r219_0 : List VOper := [
  ⟨some 2, .move (.c (.d (.int .i64 0))), none, []⟩]
def r219_1 : List VOper := [
  ⟨some 3, .move (.c (.d (.int .i64 0))), none, []⟩]
def r219_2 : List VOper := [
  ⟨some 4, .move (.c (.d (.int .i64 0))), none, []⟩]
def r219_3 : List VOper := [
  ⟨some 5, .move (.t 4), none, []⟩,
  ⟨some 6, .move (.t 0), none, []⟩,
  ⟨some 7, .len false (.t 6), none, []⟩,
  ⟨some 8, .bin .lss (.t 5) (.t 7), none, []⟩]
def r219_5 : List VOper := [
  ⟨some 11, .move (.t 3), none, []⟩,
  ⟨some 12, .move (.t 0), none, []⟩,
  ⟨some 13, .move (.t 4), none, []⟩,
  ⟨some 14, .indexAddr 1 none (.t 12) (.t 13), none, []⟩,
  ⟨some 15, .load false 1 (.t 14), none, []⟩,
  ⟨some 16, .call true (.c (.fn 221 [])) [.t 11, .t 15], none, []⟩,
  ⟨some 3, .move (.t 16), none, []⟩]
def r219_4 : List VOper := [
  ⟨some 9, .move (.t 4), none, []⟩,
  ⟨some 10, .bin .add (.t 9) (.c (.d (.int .i64 1))), none, []⟩,
  ⟨some 4, .move (.t 10), none, []⟩]
def b219_0 : VCode := (.seq (.seq (.region false 0 [0, 3, 4, 8] r219_3) (.cond (.t 8) .skip (.exit 0))) (.seq (.block 1 (.region false 0 [0, 3, 4] r219_5)) (.region false 0 [0, 3, 4] r219_4)))
def r219_6 : List VOper := [
  ⟨some 17, .move (.t 3), none, []⟩,
  ⟨some 2, .move (.t 17), none, []⟩]
def v219 : VFn := ⟨1, [.tmp 2], (.seq (.region false 0 [0] r219_0) (.seq (.region false 0 [0, 3] r219_1) (.seq (.seq (.region false 0 [0, 3, 4] r219_2) (.block 0 (.loop [0, 3, 4] b219_0))) (.seq (.region false 0 [2] r219_6) .ret))))⟩
/-! loop.example/g00461/spec.l7Ways -/
def r220_0 : List VOper := [
  ⟨some 4, .move (.c (.d (.sl .nil []))), none, []⟩]
def r220_1 : List VOper := [
  ⟨some 9, .move (.t 0), none, []⟩,
  ⟨some 10, .bin .eql (.t 9) (.c (.d (.int .i64 0))), none, []⟩]
def r220_2 : List VOper := [
  ⟨some 11, .buildSlice 1 (.int .i64 0) 0 [], none, []⟩,
  ⟨some 12, .buildSlice 1 (.sl .nil []) 1 [(0, .t 11)], none, []⟩,
  ⟨some 4, .move (.t 12), none, []⟩]
def r220_3 : List VOper := [
  ⟨some 13, .buildSlice 1 (.sl .nil []) 0 [], none, []⟩,
  ⟨some 5, .move (.t 13), none, []⟩]
def r220_4 : List VOper := [
  ⟨some 6, .move (.c (.d (.int .i64 0))), none, []⟩]
def r220_5 : List VOper := [
  ⟨some 14, .move (.t 6), none, []⟩,
  ⟨some 15, .move (.t 1), none, []⟩,
  ⟨some 16, .bin .leq (.t 14) (.t 15), none, []⟩]
def r220_7 : List VOper := [
  ⟨some 19, .move (.t 0), none, []⟩,
  ⟨some 20, .bin .sub (.t 19) (.c (.d (.int .i64 1))), none, []⟩,
  ⟨some 21, .move (.t 1), none, []⟩,
  ⟨some 22, .move (.t 6), none, []⟩,
  ⟨some 23, .bin .sub (.t 21) (.t 22), none, []⟩,
  ⟨some 24, .call true (.c (.fn 220 [])) [.t 20, .t 23], none, []⟩,
  ⟨some 7, .move (.t 24), none, []⟩]
def r220_8 : List VOper := [
  ⟨some 8, .move (.c (.d (.int .i64 0))), none, []⟩]
def r220_9 : List VOper := [
  ⟨some 25, .move (.t 8), none, []⟩,
  ⟨some 26, .move (.t 7), none, []⟩,
  ⟨some 27, .len false (.t 26), none, []⟩,
  ⟨some 28, .bin .lss (.t 25) (.t 27), none, []⟩]
def r220_11 : List VOper := [
  ⟨some 31, .move (.t 5), none, []⟩,
  ⟨some 32, .move (.t 6), none, []⟩,
  ⟨some 33, .buildSlice 1 (.int .i64 0) 1 [(0, .t 32)], none, []⟩,
  ⟨some 34, .move (.t 7), none, []⟩,
  ⟨some 35, .move (.t 8), none, []⟩,
  ⟨some 36, .indexAddr 1 none (.t 34) (.t 35), none, []⟩,
  ⟨some 37, .load false 1 (.t 36), none, []⟩,
  ⟨some 38, .append 1 8 (.t 33) (.t 37), none, []⟩,
  ⟨some 39, .buildSlice 1 (.sl .nil []) 1 [(0, .t 38)], none, []⟩,
  ⟨some 40, .append 1 24 (.t 31) (.t 39), none, []⟩,
  ⟨some 5, .move (.t 40), none, []⟩]
def r220_10 : List VOper := [
  ⟨some 29, .move (.t 8), none, []⟩,
  ⟨some 30, .bin .add (.t 29) (.c (.d (.int .i64 1))), none, []⟩,
  ⟨some 8, .move (.t 30), none, []⟩]
def b220_1 : VCode := (.seq (.seq (.region false 0 [0, 1, 5, 6, 7, 8, 28] r220_9) (.cond (.t 28) .skip (.exit 2))) (.seq (.block 3 (.region false 0 [0, 1, 5, 6, 7, 8] r220_11)) (.region false 0 [0, 1, 5, 6, 7, 8] r220_10)))
def r220_6 : List VOper := [
  ⟨some 17, .move (.t 6), none, []⟩,
  ⟨some 18, .bin .add (.t 17) (.c (.d (.int .i64 1))), none, []⟩,
  ⟨some 6, .move (.t 18), none, []⟩]
def b220_0 : VCode := (.seq (.seq (.region false 0 [0, 1, 5, 6, 16] r220_5) (.cond (.t 16) .skip (.exit 0))) (.seq (.block 1 (.seq (.region false 0 [0, 1, 5, 6, 7] r220_7) (.seq (.region false 0 [0, 1, 5, 6, 7, 8] r220_8) (.block 2 (.loop [0, 1, 5, 6, 7, 8] b220_1))))) (.region false 0 [0, 1, 5, 6] r220_6)))
def r220_12 : List VOper := [
  ⟨some 41, .move (.t 5), none, []⟩,
  ⟨some 4, .move (.t 41), none, []⟩]
def v220 : VFn := ⟨2, [.tmp 4], (.seq (.region false 0 [0, 1] r220_0) (.seq (.seq (.region false 0 [0, 1, 10] r220_1) (.cond (.t 10) (.seq (.region false 0 [4] r220_2) .ret) .skip)) (.seq (.region false 0 [0, 1, 5] r220_3) (.seq (.seq (.region false 0 [0, 1, 5, 6] r220_4) (.block 0 (.loop [0, 1, 5, 6] b220_0))) (.seq (.region false 0 [4] r220_12) .ret)))))⟩
/-! loop.example/g00461/spec.l1Max -/
def r221_0 : List VOper := [
  ⟨some 4, .move (.c (.d (.int .i64 0))), none, []⟩]
def r221_1 : List VOper := [
  ⟨some 5, .move (.t 0), none, []⟩,
  ⟨some 6, .move (.t 1), none, []⟩,
  ⟨some 7, .bin .gtr (.t 5) (.t 6), none, []⟩]
def r221_2 : List VOper := [
  ⟨some 8, .move (.t 0), none, []⟩,
  ⟨some 4, .move (.t 8), none, []⟩]
def r221_3 : List VOper := [
  ⟨some 9, .move (.t 1), none, []⟩,
  ⟨some 4, .move (.t 9), none, []⟩]
def v221 : VFn := ⟨2, [.tmp 4], (.seq (.region false 0 [0, 1] r221_0) (.seq (.seq (.region false 0 [0, 1, 7] r221_1) (.cond (.t 7) (.seq (.region false 0 [4] r221_2) .ret) .skip)) (.seq (.region false 0 [4] r221_3) .ret)))⟩
/-! loop.example/g00461/impl.smallNumbers -/
def r222_0 : List VOper := [
  ⟨some 2, .move (.c (.d (.bool false))), none, []⟩]
def r222_1 : List VOper := [
  ⟨some 3, .move (.t 0), none, []⟩,
  ⟨some 4, .len false (.t 3), none, []⟩,
  ⟨some 5, .call true (.c (.fn 30 [])) [.t 4, .c (.d (.int .i64 1)), .c (.d (.int .i64 5))], none, []⟩,
  ⟨some 6, .move (.t 5), none, []⟩,
  ⟨some 7, .move (.t 0), some (6, true), []⟩,
  ⟨some 8, .call false (.c (.fn 45 [])) [.t 7, .c (.fn 230 [])], some (6, true), []⟩,
  ⟨some 9, .not (.t 8), some (6, true), []⟩,
  ⟨some 10, .pick (.t 6) (.t 9) (.c (.d (.bool false))), none, []⟩,
  ⟨some 2, .move (.t 10), none, []⟩]
def v222 : VFn := ⟨1, [.tmp 2], (.seq (.region false 0 [0] r222_0) (.seq (.region false 0 [2] r222_1) .ret))⟩
/-! slices.Max[[]int,int] -/
def r223_0 : List VOper := [
  ⟨some 2, .move (.c (.d (.int .i64 0))), none, []⟩]
def r223_1 : List VOper := [
  ⟨some 5, .move (.t 0), none, []⟩,
  ⟨some 6, .len false (.t 5), none, []⟩,
  ⟨some 7, .bin .lss (.t 6) (.c (.d (.int .i64 1))), none, []⟩]
def r223_2 : List VOper := [
  ⟨some 8, .fail, none, []⟩,
  ⟨none, .fail, none, []⟩]
def r223_3 : List VOper := [
  ⟨some 9, .move (.t 0), none, []⟩,
  ⟨some 10, .indexAddr 1 none (.t 9) (.c (.d (.int .i64 0))), none, []⟩,
  ⟨some 11, .load false 1 (.t 10), none, []⟩,
  ⟨some 3, .move (.t 11), none, []⟩]
def r223_4 : List VOper := [
  ⟨some 4, .move (.c (.d (.int .i64 1))), none, []⟩]
def r223_5 : List VOper := [
  ⟨some 12, .move (.t 4), none, []⟩,
  ⟨some 13, .move (.t 0), none, []⟩,
  ⟨some 14, .len false (.t 13), none, []⟩,
  ⟨some 15, .bin .lss (.t 12) (.t 14), none, []⟩]
def r223_7 : List VOper := [
  ⟨some 18, .move (.t 3), none, []⟩,
  ⟨some 19, .move (.t 0), none, []⟩,
  ⟨some 20, .move (.t 4), none, []⟩,
  ⟨some 21, .indexAddr 1 none (.t 19) (.t 20), none, []⟩,
  ⟨some 22, .load false 1 (.t 21), none, []⟩,
  ⟨some 23, .max (.t 18) (.t 22), none, []⟩,
  ⟨some 3, .move (.t 23), none, []⟩]
def r223_6 : List VOper := [
  ⟨some 16, .move (.t 4), none, []⟩,
  ⟨some 17, .bin .add (.t 16) (.c (.d (.int .i64 1))), none, []⟩,
  ⟨some 4, .move (.t 17), none, []⟩]
def b223_0 : VCode := (.seq (.seq (.region false 0 [0, 3, 4, 15] r223_5) (.cond (.t 15) .skip (.exit 0))) (.seq (.block 1 (.region false 0 [0, 3, 4] r223_7)) (.region false 0 [0, 3, 4] r223_6)))
def r223_8 : List VOper := [
  ⟨some 24, .move (.t 3), none, []⟩,
  ⟨some 2, .move (.t 24), none, []⟩]
def v223 : VFn := ⟨1, [.tmp 2], (.seq (.region false 0 [0] r223_0) (.seq (.seq (.region false 0 [0, 7] r223_1) (.cond (.t 7) (.region false 0 [0] r223_2) .skip)) (.seq (.region false 0 [0, 3] r223_3) (.seq (.seq (.region false 0 [0, 3, 4] r223_4) (.block 0 (.loop [0, 3, 4] b223_0))) (.seq (.region false 0 [2] r223_8) .ret)))))⟩
/-! loop.example/g00461/impl.sums -/
def r224_0 : List VOper := [
  ⟨some 4, .move (.c (.d (.sl .nil []))), none, []⟩]
def r224_1 : List VOper := [
  ⟨some 9, .move (.t 0), none, []⟩,
  ⟨some 10, .bin .eql (.t 9) (.c (.d (.int .i64 0))), none, []⟩]
def r224_2 : List VOper := [
  ⟨some 11, .buildSlice 1 (.int .i64 0) 0 [], none, []⟩,
  ⟨some 12, .buildSlice 1 (.sl .nil []) 1 [(0, .t 11)], none, []⟩,
  ⟨some 4, .move (.t 12), none, []⟩]
def r224_3 : List VOper := [
  ⟨some 13, .buildSlice 1 (.sl .nil []) 0 [], none, []⟩,
  ⟨some 5, .move (.t 13), none, []⟩]
def r224_4 : List VOper := [
  ⟨some 6, .move (.c (.d (.int .i64 0))), none, []⟩]
def r224_5 : List VOper := [
  ⟨some 14, .move (.t 6), none, []⟩,
  ⟨some 15, .move (.t 1), none, []⟩,
  ⟨some 16, .bin .leq (.t 14) (.t 15), none, []⟩]
def r224_7 : List VOper := [
  ⟨some 19, .move (.t 0), none, []⟩,
  ⟨some 20, .bin .sub (.t 19) (.c (.d (.int .i64 1))), none, []⟩,
  ⟨some 21, .move (.t 1), none, []⟩,
  ⟨some 22, .move (.t 6), none, []⟩,
  ⟨some 23, .bin .sub (.t 21) (.t 22), none, []⟩,
  ⟨some 24, .call true (.c (.fn 224 [])) [.t 20, .t 23], none, []⟩,
  ⟨some 25, .len false (.t 24), none, []⟩,
  ⟨some 26, .move (.c (.d (.int .i64 0))), none, []⟩]
def r224_8 : List VOper := [
  ⟨some 27, .bin .lss (.t 26) (.t 25), none, []⟩]
def r224_9 : List VOper := [
  ⟨some 28, .indexAddr 1 none (.t 24) (.t 26), none, []⟩,
  ⟨some 29, .load false 1 (.t 28), none, []⟩,
  ⟨some 8, .move (.t 29), none, []⟩]
def r224_10 : List VOper := [
  ⟨some 30, .move (.t 5), none, []⟩,
  ⟨some 31, .move (.t 6), none, []⟩,
  ⟨some 32, .buildSlice 1 (.int .i64 0) 1 [(0, .t 31)], none, []⟩,
  ⟨some 33, .move (.t 8), none, []⟩,
  ⟨some 34, .append 1 8 (.t 32) (.t 33), none, []⟩,
  ⟨some 35, .buildSlice 1 (.sl .nil []) 1 [(0, .t 34)], none, []⟩,
  ⟨some 36, .append 1 24 (.t 30) (.t 35), none, []⟩,
  ⟨some 5, .move (.t 36), none, []⟩]
def r224_11 : List VOper := [
  ⟨some 37, .bin .add (.t 26) (.c (.d (.int .i64 1))), none, []⟩,
  ⟨some 26, .move (.t 37), none, []⟩]
def b224_1 : VCode := (.seq (.region false 0 [0, 1, 5, 6, 24, 25, 26, 27] r224_8) (.seq (.cond (.t 27) .skip (.exit 2)) (.seq (.block 3 (.seq (.region false 0 [0, 1, 5, 6, 8, 24, 25, 26] r224_9) (.region false 0 [0, 1, 5, 6, 24, 25, 26] r224_10))) (.region false 0 [0, 1, 5, 6, 24, 25, 26] r224_11))))
def r224_6 : List VOper := [
  ⟨some 17, .move (.t 6), none, []⟩,
  ⟨some 18, .bin .add (.t 17) (.c (.d (.int .i64 1))), none, []⟩,
  ⟨some 6, .move (.t 18), none, []⟩]
def b224_0 : VCode := (.seq (.seq (.region false 0 [0, 1, 5, 6, 16] r224_5) (.cond (.t 16) .skip (.exit 0))) (.seq (.block 1 (.seq (.region false 0 [0, 1, 5, 6, 24, 25, 26] r224_7) (.block 2 (.loop [0, 1, 5, 6, 24, 25, 26] b224_1)))) (.region false 0 [0, 1, 5, 6] r224_6)))
def r224_12 : List VOper := [
  ⟨some 38, .move (.t 5), none, []⟩,
  ⟨some 4, .move (.t 38), none, []⟩]
def v224 : VFn := ⟨2, [.tmp 4], (.seq (.region false 0 [0, 1] r224_0) (.seq (.seq (.region false 0 [0, 1, 10] r224_1) (.cond (.t 10) (.seq (.region false 0 [4] r224_2) .ret) .skip)) (.seq (.region false 0 [0, 1, 5] r224_3) (.seq (.seq (.region false 0 [0, 1, 5, 6] r224_4) (.block 0 (.loop [0, 1, 5, 6] b224_0))) (.seq (.region false 0 [4] r224_12) .ret)))))⟩
/-! slices.Concat[[]int,int] -/
def r225_0 : List VOper := [
  ⟨some 2, .move (.c (.d (.sl .nil []))), none, []⟩]
def r225_1 : List VOper := [
  ⟨some 3, .move (.c (.d (.int .i64 0))), none, []⟩]
def r225_2 : List VOper := [
  ⟨some 9, .move (.t 0), none, []⟩,
  ⟨some 10, .len false (.t 9), none, []⟩,
  ⟨some 11, .move (.c (.d (.int .i64 0))), none, []⟩]
def r225_3 : List VOper := [
  ⟨some 12, .bin .lss (.t 11) (.t 10), none, []⟩]
def r225_4 : List VOper := [
  ⟨some 13, .indexAddr 1 none (.t 9) (.t 11), none, []⟩,
  ⟨some 14, .load false 1 (.t 13), none, []⟩,
  ⟨some 5, .move (.t 14), none, []⟩]
def r225_5 : List VOper := [
  ⟨some 15, .move (.t 3), none, []⟩,
  ⟨some 16, .move (.t 5), none, []⟩,
  ⟨some 17, .len false (.t 16), none, []⟩,
  ⟨some 18, .bin .add (.t 15) (.t 17), none, []⟩,
  ⟨some 3, .move (.t 18), none, []⟩]
def r225_6 : List VOper := [
  ⟨some 19, .move (.t 3), none, []⟩,
  ⟨some 20, .bin .lss (.t 19) (.c (.d (.int .i64 0))), none, []⟩]
def r225_7 : List VOper := [
  ⟨some 21, .fail, none, []⟩,
  ⟨none, .fail, none, []⟩]
def r225_8 : List VOper := [
  ⟨some 22, .bin .add (.t 11) (.c (.d (.int .i64 1))), none, []⟩,
  ⟨some 11, .move (.t 22), none, []⟩]
def b225_0 : VCode := (.seq (.region false 0 [0, 3, 9, 10, 11, 12] r225_3) (.seq (.cond (.t 12) .skip (.exit 0)) (.seq (.block 1 (.seq (.region false 0 [0, 3, 5, 9, 10, 11] r225_4) (.seq (.region false 0 [0, 3, 9, 10, 11] r225_5) (.seq (.region false 0 [0, 3, 9, 10, 11, 20] r225_6) (.cond (.t 20) (.region false 0 [0, 3, 9, 10, 11] r225_7) .skip))))) (.region false 0 [0, 3, 9, 10, 11] r225_8))))
def r225_9 : List VOper := [
  ⟨some 23, .move (.t 3), none, []⟩,
  ⟨some 24, .call true (.c (.fn 229 [])) [.c (.d (.sl .nil [])), .t 23], none, []⟩,
  ⟨some 6, .move (.t 24), none, []⟩]
def r225_10 : List VOper := [
  ⟨some 25, .move (.t 0), none, []⟩,
  ⟨some 26, .len false (.t 25), none, []⟩,
  ⟨some 27, .move (.c (.d (.int .i64 0))), none, []⟩]
def r225_11 : List VOper := [
  ⟨some 28, .bin .lss (.t 27) (.t 26), none, []⟩]
def r225_12 : List VOper := [
  ⟨some 29, .indexAddr 1 none (.t 25) (.t 27), none, []⟩,
  ⟨some 30, .load false 1 (.t 29), none, []⟩,
  ⟨some 8, .move (.t 30), none, []⟩]
def r225_13 : List VOper := [
  ⟨some 31, .move (.t 6), none, []⟩,
  ⟨some 32, .move (.t 8), none, []⟩,
  ⟨some 33, .append 1 8 (.t 31) (.t 32), none, []⟩,
  ⟨some 6, .move (.t 33), none, []⟩]
def r225_14 : List VOper := [
  ⟨some 34, .bin .add (.t 27) (.c (.d (.int .i64 1))), none, []⟩,
  ⟨some 27, .move (.t 34), none, []⟩]
def b225_1 : VCode := (.seq (.region false 0 [6, 25, 26, 27, 28] r225_11) (.seq (.cond (.t 28) .skip (.exit 2)) (.seq (.block 3 (.seq (.region false 0 [6, 8, 25, 26, 27] r225_12) (.region false 0 [6, 25, 26, 27] r225_13))) (.region false 0 [6, 25, 26, 27] r225_14))))
def r225_15 : List VOper := [
  ⟨some 35, .move (.t 6), none, []⟩,
  ⟨some 2, .move (.t 35), none, []⟩]
def v225 : VFn := ⟨1, [.tmp 2], (.seq (.region false 0 [0] r225_0) (.seq (.region false 0 [0, 3] r225_1) (.seq (.seq (.region false 0 [0, 3, 9, 10, 11] r225_2) (.block 0 (.loop [0, 3, 9, 10, 11] b225_0))) (.seq (.region false 0 [0, 6] r225_9) (.seq (.seq (.region false 0 [6, 25, 26, 27] r225_10) (.block 2 (.loop [6, 25, 26, 27] b225_1))) (.seq (.region false 0 [2] r225_15) .ret))))))⟩
/-! loop.example/g00461/impl.Basis$1 -/
def r226_0 : List VOper := [
  ⟨some 3, .move (.c (.d (.bool false))), none, []⟩]
def r226_1 : List VOper := [
  ⟨some 4, .move (.t 0), none, []⟩,
  ⟨some 5, .load false 1 (.t 1), none, []⟩,
  ⟨some 6, .call true (.c (.fn 51 [])) [.t 4, .t 5], none, []⟩,
  ⟨some 3, .move (.t 6), none, []⟩]
def v226 : VFn := ⟨2, [.tmp 3], (.seq (.region false 0 [0, 1] r226_0) (.seq (.region false 0 [3] r226_1) .ret))⟩
/-! slices.ContainsFunc[[][]int,[]int] -/
def r227_0 : List VOper := [
  ⟨some 4, .move (.c (.d (.bool false))), none, []⟩]
def r227_1 : List VOper := [
  ⟨some 5, .move (.t 0), none, []⟩,
  ⟨some 6, .move (.t 1), none, []⟩,
  ⟨some 7, .call false (.c (.fn 228 [])) [.t 5, .t 6], none, []⟩,
  ⟨some 8, .bin .geq (.t 7) (.c (.d (.int .i64 0))), none, []⟩,
  ⟨some 4, .move (.t 8), none, []⟩]
def v227 : VFn := ⟨2, [.tmp 4], (.seq (.region false 0 [0, 1] r227_0) (.seq (.region false 0 [4] r227_1) .ret))⟩
/-! slices.IndexFunc[[][]int,[]int] -/
def r228_0 : List VOper := [
  ⟨some 4, .move (.c (.d (.int .i64 0))), none, []⟩]
def r228_1 : List VOper := [
  ⟨some 6, .move (.t 0), none, []⟩,
  ⟨some 7, .len false (.t 6), none, []⟩,
  ⟨some 8, .move (.c (.d (.int .i64 0))), none, []⟩]
def r228_2 : List VOper := [
  ⟨some 9, .bin .lss (.t 8) (.t 7), none, []⟩]
def r228_3 : List VOper := [
  ⟨some 10, .move (.t 8), none, []⟩,
  ⟨some 5, .move (.t 10), none, []⟩]
def r228_4 : List VOper := [
  ⟨some 11, .move (.t 1), none, []⟩,
  ⟨some 12, .move (.t 0), none, []⟩,
  ⟨some 13, .move (.t 5), none, []⟩,
  ⟨some 14, .indexAddr 1 none (.t 12) (.t 13), none, []⟩,
  ⟨some 15, .load false 1 (.t 14), none, []⟩,
  ⟨some 16, .call false (.t 11) [.t 15], none, []⟩]
def r228_5 : List VOper := [
  ⟨some 17, .move (.t 5), none, []⟩,
  ⟨some 4, .move (.t 17), none, []⟩]
def r228_6 : List VOper := [
  ⟨some 18, .bin .add (.t 8) (.c (.d (.int .i64 1))), none, []⟩,
  ⟨some 8, .move (.t 18), none, []⟩]
def b228_0 : VCode := (.seq (.region false 0 [0, 1, 7, 8, 9] r228_2) (.seq (.cond (.t 9) .skip (.exit 0)) (.seq (.block 1 (.seq (.region false 0 [0, 1, 5, 7, 8] r228_3) (.seq (.region false 0 [0, 1, 5, 7, 8, 16] r228_4) (.cond (.t 16) (.seq (.region false 0 [4] r228_5) .ret) .skip)))) (.region false 0 [0, 1, 7, 8] r228_6))))
def r228_7 : List VOper := [
  ⟨some 4, .move (.c (.d (.int .i64 (-1)))), none, []⟩]
def v228 : VFn := ⟨2, [.tmp 4], (.seq (.region false 0 [0, 1] r228_0) (.seq (.seq (.region false 0 [0, 1, 7, 8] r228_1) (.block 0 (.loop [0, 1, 7, 8] b228_0))) (.seq (.region false 0 [4] r228_7) .ret)))⟩
/-! loop.example/g00461/impl.smallNumbers$1 -/
def r230_0 : List VOper := [
  ⟨some 2, .move (.c (.d (.bool false))), none, []⟩]
def r230_1 : List VOper := [
  ⟨some 3, .move (.t 0), none, []⟩,
  ⟨some 4, .call true (.c (.fn 30 [])) [.t 3, .c (.d (.int .i64 1)), .c (.d (.int .i64 4))], none, []⟩,
  ⟨some 5, .not (.t 4), none, []⟩,
  ⟨some 2, .move (.t 5), none, []⟩]
def v230 : VFn := ⟨1, [.tmp 2], (.seq (.region false 0 [0] r230_0) (.seq (.region false 0 [2] r230_1) .ret))⟩
/-! loop.example/g00461/spec.l7DrawSide -/
def r231_0 : List VOper := [
  ⟨some 2, .move (.c (.d (.sl .nil []))), none, []⟩]
def r231_1 : List VOper := [
  ⟨some 5, .buildSlice 1 (.int .i64 0) 0 [], none, []⟩,
  ⟨some 3, .move (.t 5), none, []⟩]
def r231_2 : List VOper := [
  ⟨some 4, .move (.c (.d (.int .i64 0))), none, []⟩]
def r231_3 : List VOper := [
  ⟨some 6, .move (.t 4), none, []⟩,
  ⟨some 7, .move (.t 0), none, []⟩,
  ⟨some 8, .call false (.c (.fn 159 [])) [.t 7, .c (.d (.int .i64 3))], none, []⟩,
  ⟨some 9, .bin .add (.c (.d (.int .i64 1))) (.t 8), none, []⟩,
  ⟨some 10, .bin .lss (.t 6) (.t 9), none, []⟩]
def r231_5 : List VOper := [
  ⟨some 13, .move (.t 3), none, []⟩,
  ⟨some 14, .move (.t 0), none, []⟩,
  ⟨some 15, .call false (.c (.fn 159 [])) [.t 14, .c (.d (.int .i64 3))], none, []⟩,
  ⟨some 16, .bin .add (.c (.d (.int .i64 1))) (.t 15), none, []⟩,
  ⟨some 17, .buildSlice 1 (.int .i64 0) 1 [(0, .t 16)], none, []⟩,
  ⟨some 18, .append 1 8 (.t 13) (.t 17), none, []⟩,
  ⟨some 3, .move (.t 18), none, []⟩]
def r231_4 : List VOper := [
  ⟨some 11, .move (.t 4), none, []⟩,
  ⟨some 12, .bin .add (.t 11) (.c (.d (.int .i64 1))), none, []⟩,
  ⟨some 4, .move (.t 12), none, []⟩]
def b231_0 : VCode := (.seq (.seq (.region false 0 [0, 3, 4, 10] r231_3) (.cond (.t 10) .skip (.exit 0))) (.seq (.block 1 (.region false 0 [0, 3, 4] r231_5)) (.region false 0 [0, 3, 4] r231_4)))
def r231_6 : List VOper := [
  ⟨some 19, .move (.t 0), none, []⟩,
  ⟨some 20, .call false (.c (.fn 162 [])) [.t 19, .c (.d (.int .i64 12))], none, []⟩]
def r231_7 : List VOper := [
  ⟨some 21, .move (.t 3), none, []⟩,
  ⟨some 22, .move (.t 0), none, []⟩,
  ⟨some 23, .buildSlice 1 (.int .i64 0) 4 [(0, .c (.d (.int .i64 0))), (1, .c (.d (.int .i64 4))), (2, .c (.d (.int .i64 5))), (3, .c (.d (.int .i64 (-1))))], none, []⟩,
  ⟨some 24, .call false (.c (.fn 160 [])) [.t 22, .t 23], none, []⟩,
  ⟨some 25, .buildSlice 1 (.int .i64 0) 1 [(0, .t 24)], none, []⟩,
  ⟨some 26, .append 1 8 (.t 21) (.t 25), none, []⟩,
  ⟨some 2, .move (.t 26), none, []⟩]
def r231_8 : List VOper := [
  ⟨some 27, .move (.t 3), none, []⟩,
  ⟨some 2, .move (.t 27), none, []⟩]
def v231 : VFn := ⟨1, [.tmp 2], (.seq (.region false 0 [0] r231_0) (.seq (.region false 0 [0, 3] r231_1) (.seq (.seq (.region false 0 [0, 3, 4] r231_2) (.block 0 (.loop [0, 3, 4] b231_0))) (.seq (.seq (.region false 0 [0, 3, 20] r231_6) (.cond (.t 20) (.seq (.region false 0 [2] r231_7) .ret) .skip)) (.seq (.region false 0 [2] r231_8) .ret)))))⟩
/-! loop.example/g00461/laws.FnSigs -/
def r232_0 : List VOper := [
  ⟨some 2, .move (.c (.d (.bool false))), none, []⟩]
def r232_1 : List VOper := [
  ⟨some 13, .move (.t 0), none, []⟩,
  ⟨some 14, .call true (.c (.fn 133 [])) [.t 13], none, []⟩]
def r232_2 : List VOper := [
  ⟨some 2, .move (.c (.d (.bool true))), none, []⟩]
def r232_3 : List VOper := [
  ⟨some 15, .move (.t 0), none, []⟩,
  ⟨some 16, .call true (.c (.fn 233 [])) [.t 15], none, []⟩,
  ⟨some 3, .move (.t 16), none, []⟩]
def r232_4 : List VOper := [
  ⟨some 18, .move (.t 0), none, []⟩,
  ⟨some 19, .call true (.c (.fn 234 [])) [.t 18], none, []⟩,
  ⟨some 17, .move (.t 19), none, []⟩,
  ⟨some 20, .extract (.t 17) 0, none, []⟩,
  ⟨some 21, .extract (.t 17) 1, none, []⟩,
  ⟨some 4, .move (.t 20), none, []⟩,
  ⟨some 5, .move (.t 21), none, []⟩]
def r232_5 : List VOper := [
  ⟨some 23, .move (.t 0), none, []⟩,
  ⟨some 24, .call true (.c (.fn 235 [])) [.t 23], none, []⟩,
  ⟨some 22, .move (.t 24), none, []⟩,
  ⟨some 25, .extract (.t 22) 0, none, []⟩,
  ⟨some 26, .extract (.t 22) 1, none, []⟩,
  ⟨some 6, .move (.t 25), none, []⟩,
  ⟨some 7, .move (.t 26), none, []⟩]
def r232_6 : List VOper := [
  ⟨some 28, .move (.t 0), none, []⟩,
  ⟨some 29, .call true (.c (.fn 236 [])) [.t 28], none, []⟩,
  ⟨some 27, .move (.t 29), none, []⟩,
  ⟨some 30, .extract (.t 27) 0, none, []⟩,
  ⟨some 31, .extract (.t 27) 1, none, []⟩,
  ⟨some 8, .move (.t 30), none, []⟩,
  ⟨some 9, .move (.t 31), none, []⟩]
def r232_7 : List VOper := [
  ⟨some 32, .move (.t 0), none, []⟩,
  ⟨some 33, .call true (.c (.fn 237 [])) [.t 32], none, []⟩,
  ⟨some 34, .move (.t 0), none, []⟩,
  ⟨some 35, .call true (.c (.fn 238 [])) [.t 34], none, []⟩,
  ⟨some 10, .move (.t 33), none, []⟩,
  ⟨some 11, .move (.t 35), none, []⟩]
def r232_8 : List VOper := [
  ⟨some 36, .move (.t 3), none, []⟩,
  ⟨some 37, .call true (.c (.fn 77 [])) [.t 36], none, []⟩,
  ⟨some 38, .move (.t 3), none, []⟩,
  ⟨some 39, .call true (.c (.fn 82 [])) [.t 38], none, []⟩,
  ⟨some 40, .eqB true (.t 37) (.t 39), none, []⟩,
  ⟨some 41, .move (.t 40), none, []⟩,
  ⟨some 42, .move (.t 4), some (41, false), []⟩,
  ⟨some 43, .move (.t 5), some (41, false), []⟩,
  ⟨some 44, .call true (.c (.fn 14 [])) [.t 42, .t 43], some (41, false), []⟩,
  ⟨some 45, .move (.t 4), some (41, false), []⟩,
  ⟨some 46, .move (.t 5), some (41, false), []⟩,
  ⟨some 47, .call true (.c (.fn 13 [])) [.t 45, .t 46], some (41, false), []⟩,
  ⟨some 48, .bin .neq (.t 44) (.t 47), some (41, false), []⟩,
  ⟨some 49, .pick (.t 41) (.c (.d (.bool true))) (.t 48), none, []⟩,
  ⟨some 50, .move (.t 49), none, []⟩,
  ⟨some 51, .move (.t 6), some (50, false), []⟩,
  ⟨some 52, .move (.t 7), some (50, false), []⟩,
  ⟨some 53, .call true (.c (.fn 34 [])) [.t 51, .t 52], some (50, false), []⟩,
  ⟨some 54, .move (.t 6), some (50, false), []⟩,
  ⟨some 55, .move (.t 7), some (50, false), []⟩,
  ⟨some 56, .call true (.c (.fn 33 [])) [.t 54, .t 55], some (50, false), []⟩,
  ⟨some 57, .eqB true (.t 53) (.t 56), some (50, false), []⟩,
  ⟨some 58, .pick (.t 50) (.c (.d (.bool true))) (.t 57), none, []⟩,
  ⟨some 59, .move (.t 58), none, []⟩,
  ⟨some 60, .move (.t 8), some (59, false), []⟩,
  ⟨some 61, .move (.t 9), some (59, false), []⟩,
  ⟨some 62, .call true (.c (.fn 28 [])) [.t 60, .t 61], some (59, false), []⟩,
  ⟨some 63, .move (.t 8), some (59, false), []⟩,
  ⟨some 64, .move (.t 9), some (59, false), []⟩,
  ⟨some 65, .call true (.c (.fn 27 [])) [.t 63, .t 64], some (59, false), []⟩,
  ⟨some 66, .bin .neq (.t 62) (.t 65), some (59, false), []⟩,
  ⟨some 67, .pick (.t 59) (.c (.d (.bool true))) (.t 66), none, []⟩,
  ⟨some 68, .move (.t 67), none, []⟩,
  ⟨some 69, .move (.t 10), some (68, false), []⟩,
  ⟨some 70, .call true (.c (.fn 115 [])) [.t 69], some (68, false), []⟩,
  ⟨some 71, .move (.t 10), some (68, false), []⟩,
  ⟨some 72, .call true (.c (.fn 114 [])) [.t 71], some (68, false), []⟩,
  ⟨some 73, .bin .neq (.t 70) (.t 72), some (68, false), []⟩,
  ⟨some 74, .pick (.t 68) (.c (.d (.bool true))) (.t 73), none, []⟩,
  ⟨some 75, .move (.t 74), none, []⟩,
  ⟨some 76, .move (.t 11), some (75, false), []⟩,
  ⟨some 77, .call true (.c (.fn 60 [])) [.t 76], some (75, false), []⟩,
  ⟨some 78, .move (.t 11), some (75, false), []⟩,
  ⟨some 79, .call true (.c (.fn 59 [])) [.t 78], some (75, false), []⟩,
  ⟨some 80, .eqB true (.t 77) (.t 79), some (75, false), []⟩,
  ⟨some 81, .pick (.t 75) (.c (.d (.bool true))) (.t 80), none, []⟩]
def r232_9 : List VOper := [
  ⟨some 2, .move (.c (.d (.bool false))), none, []⟩]
def r232_10 : List VOper := [
  ⟨some 12, .move (.c (.d (.int .i64 0))), none, []⟩]
def r232_11 : List VOper := [
  ⟨some 82, .move (.t 12), none, []⟩,
  ⟨some 83, .move (.t 3), none, []⟩,
  ⟨some 84, .len false (.t 83), none, []⟩,
  ⟨some 85, .bin .lss (.t 82) (.t 84), none, []⟩,
  ⟨some 86, .move (.t 85), none, []⟩,
  ⟨some 87, .move (.t 3), some (86, true), []⟩,
  ⟨some 88, .call true (.c (.fn 77 [])) [.t 87], some (86, true), []⟩,
  ⟨some 89, .pick (.t 86) (.t 88) (.c (.d (.bool false))), none, []⟩]
def r232_13 : List VOper := [
  ⟨some 92, .move (.t 3), none, []⟩,
  ⟨some 93, .move (.t 3), none, []⟩,
  ⟨some 94, .move (.t 12), none, []⟩,
  ⟨some 95, .indexAddr 3 none (.t 93) (.t 94), none, [1, 2]⟩,
  ⟨some 96, .fieldAddr 0 (.t 95), none, [3]⟩,
  ⟨some 97, .load false 1 (.t 96), none, [4]⟩,
  ⟨some 98, .call true (.c (.fn 14 [])) [.t 92, .t 97], none, [0, 5]⟩,
  ⟨some 99, .move (.t 12), none, []⟩,
  ⟨some 100, .bin .neq (.t 98) (.t 99), none, [6, 7]⟩,
  ⟨some 101, .move (.t 100), none, [6, 8]⟩,
  ⟨some 102, .move (.t 3), some (101, false), [9]⟩,
  ⟨some 103, .move (.t 12), some (101, false), [9]⟩,
  ⟨some 104, .call true (.c (.fn 28 [])) [.t 102, .t 103], some (101, false), [9, 10, 11]⟩,
  ⟨some 105, .move (.t 3), some (101, false), [9]⟩,
  ⟨some 106, .move (.t 12), some (101, false), [9]⟩,
  ⟨some 107, .indexAddr 3 none (.t 105) (.t 106), some (101, false), [9, 13, 14]⟩,
  ⟨some 108, .fieldAddr 1 (.t 107), some (101, false), [9, 15]⟩,
  ⟨some 109, .load false 1 (.t 108), some (101, false), [9, 16]⟩,
  ⟨some 110, .bin .neq (.t 104) (.t 109), some (101, false), [9, 12, 17]⟩,
  ⟨some 111, .pick (.t 101) (.c (.d (.bool true))) (.t 110), none, [9, 18]⟩]
def r232_14 : List VOper := [
  ⟨some 2, .move (.c (.d (.bool false))), none, []⟩]
def r232_12 : List VOper := [
  ⟨some 90, .move (.t 12), none, []⟩,
  ⟨some 91, .bin .add (.t 90) (.c (.d (.int .i64 1))), none, []⟩,
  ⟨some 12, .move (.t 91), none, []⟩]
def b232_0 : VCode := (.seq (.seq (.region false 0 [3, 12, 89] r232_11) (.cond (.t 89) .skip (.exit 0))) (.seq (.block 1 (.seq (.region true 0 [3, 12, 111] r232_13) (.cond (.t 111) (.seq (.region false 0 [2] r232_14) .ret) .skip))) (.region false 0 [3, 12] r232_12)))
def r232_15 : List VOper := [
  ⟨some 2, .move (.c (.d (.bool true))), none, []⟩]
def v232 : VFn := ⟨1, [.tmp 2], (.seq (.region false 0 [0] r232_0) (.seq (.seq (.region false 0 [0, 14] r232_1) (.cond (.t 14) (.seq (.region false 0 [2] r232_2) .ret) .skip)) (.seq (.region false 0 [0, 3] r232_3) (.seq (.region false 0 [0, 3, 4, 5] r232_4) (.seq (.region false 0 [0, 3, 4, 5, 6, 7] r232_5) (.seq (.region false 0 [0, 3, 4, 5, 6, 7, 8, 9] r232_6) (.seq (.region false 0 [3, 4, 5, 6, 7, 8, 9, 10, 11] r232_7) (.seq (.seq (.region false 0 [3, 81] r232_8) (.cond (.t 81) (.seq (.region false 0 [2] r232_9) .ret) .skip)) (.seq (.seq (.region false 0 [3, 12] r232_10) (.block 0 (.loop [3, 12] b232_0))) (.seq (.region false 0 [2] r232_15) .ret))))))))))⟩
/-! loop.example/g00461/spec.DrawSigOk -/
def r233_0 : List VOper := [
  ⟨some 2, .move (.c (.d (.sl .nil []))), none, []⟩]
def r233_1 : List VOper := [
  ⟨some 3, .move (.t 0), none, []⟩,
  ⟨some 4, .call false (.c (.fn 156 [])) [.t 3], none, []⟩,
  ⟨some 5, .call false (.c (.fn 195 [])) [.t 4], none, []⟩,
  ⟨some 2, .move (.t 5), none, []⟩]
def v233 : VFn := ⟨1, [.tmp 2], (.seq (.region false 0 [0] r233_0) (.seq (.region false 0 [2] r233_1) .ret))⟩
/-! loop.example/g00461/spec.DrawSymOf -/
def r234_0 : List VOper := [
  ⟨some 2, .move (.c (.d (.sl .nil []))), none, []⟩,
  ⟨some 3, .move (.c (.d (.str ⟨#[]⟩))), none, []⟩]
def r234_1 : List VOper := [
  ⟨some 6, .move (.t 0), none, []⟩,
  ⟨some 7, .call false (.c (.fn 156 [])) [.t 6], none, []⟩,
  ⟨some 4, .move (.t 7), none, []⟩]
def r234_2 : List VOper := [
  ⟨some 8, .move (.t 4), none, []⟩,
  ⟨some 9, .call false (.c (.fn 195 [])) [.t 8], none, []⟩,
  ⟨some 5, .move (.t 9), none, []⟩]
def r234_3 : List VOper := [
  ⟨some 10, .move (.t 5), none, []⟩,
  ⟨some 11, .move (.t 4), none, []⟩,
  ⟨some 12, .buildSlice 1 (.str ⟨#[]⟩) 5 [(0, .c (.d (.str ⟨#[102]⟩))), (1, .c (.d (.str ⟨#[116, 116]⟩))), (2, .c (.d (.str ⟨#[97]⟩))), (3, .c (.d (.str ⟨#[122, 122]⟩))), (4, .c (.d (.str ⟨#[]⟩)))], none, []⟩,
  ⟨some 13, .call false (.c (.fn 196 [])) [.t 11, .t 12], none, []⟩,
  ⟨some 2, .move (.t 10), none, []⟩,
  ⟨some 3, .move (.t 13), none, []⟩]
def v234 : VFn := ⟨1, [.tmp 2, .tmp 3], (.seq (.region false 0 [0] r234_0) (.seq (.region false 0 [4] r234_1) (.seq (.region false 0 [4, 5] r234_2) (.seq (.region false 0 [2, 3] r234_3) .ret))))⟩
/-! loop.example/g00461/spec.DrawBlind -/
def r235_0 : List VOper := [
  ⟨some 2, .move (.c (.d (.sl .nil []))), none, []⟩,
  ⟨some 3, .move (.c (.d (.int .i64 0))), none, []⟩]
def r235_1 : List VOper := [
  ⟨some 6, .move (.t 0), none, []⟩,
  ⟨some 7, .call false (.c (.fn 156 [])) [.t 6], none, []⟩,
  ⟨some 4, .move (.t 7), none, []⟩]
def r235_2 : List VOper := [
  ⟨some 8, .move (.t 4), none, []⟩,
  ⟨some 9, .call false (.c (.fn 195 [])) [.t 8], none, []⟩,
  ⟨some 5, .move (.t 9), none, []⟩]
def r235_3 : List VOper := [
  ⟨some 10, .move (.t 5), none, []⟩,
  ⟨some 11, .move (.t 4), none, []⟩,
  ⟨some 12, .call false (.c (.fn 159 [])) [.t 11, .c (.d (.int .i64 11))], none, []⟩,
  ⟨some 13, .bin .sub (.t 12) (.c (.d (.int .i64 2))), none, []⟩,
  ⟨some 2, .move (.t 10), none, []⟩,
  ⟨some 3, .move (.t 13), none, []⟩]
def v235 : VFn := ⟨1, [.tmp 2, .tmp 3], (.seq (.region false 0 [0] r235_0) (.seq (.region false 0 [4] r235_1) (.seq (.region false 0 [4, 5] r235_2) (.seq (.region false 0 [2, 3] r235_3) .ret))))⟩
/-! loop.example/g00461/spec.DrawArityOf -/
def r236_0 : List VOper := [
  ⟨some 2, .move (.c (.d (.sl .nil []))), none, []⟩,
  ⟨some 3, .move (.c (.d (.int .i64 0))), none, []⟩]
def r236_1 : List VOper := [
  ⟨some 7, .move (.t 0), none, []⟩,
  ⟨some 8, .call true (.c (.fn 235 [])) [.t 7], none, []⟩,
  ⟨some 6, .move (.t 8), none, []⟩,
  ⟨some 9, .extract (.t 6) 0, none, []⟩,
  ⟨some 10, .extract (.t 6) 1, none, []⟩,
  ⟨some 4, .move (.t 9), none, []⟩,
  ⟨some 5, .move (.t 10), none, []⟩]
def r236_2 : List VOper := [
  ⟨some 11, .move (.t 4), none, []⟩,
  ⟨some 12, .move (.t 5), none, []⟩,
  ⟨some 2, .move (.t 11), none, []⟩,
  ⟨some 3, .move (.t 12), none, []⟩]
def v236 : VFn := ⟨1, [.tmp 2, .tmp 3], (.seq (.region false 0 [0] r236_0) (.seq (.region false 0 [4, 5] r236_1) (.seq (.region false 0 [2, 3] r236_2) .ret)))⟩
/-! loop.example/g00461/spec.DrawSigText -/
def r237_0 : List VOper := [
  ⟨some 2, .move (.c (.d (.sl .nil []))), none, []⟩]
def r237_1 : List VOper := [
  ⟨some 3, .move (.t 0), none, []⟩,
  ⟨some 4, .call false (.c (.fn 156 [])) [.t 3], none, []⟩,
  ⟨some 5, .call false (.c (.fn 195 [])) [.t 4], none, []⟩,
  ⟨some 2, .move (.t 5), none, []⟩]
def v237 : VFn := ⟨1, [.tmp 2], (.seq (.region false 0 [0] r237_0) (.seq (.region false 0 [2] r237_1) .ret))⟩
/-! loop.example/g00461/spec.DrawNameOk -/
def r238_0 : List VOper := [
  ⟨some 2, .move (.c (.d (.str ⟨#[]⟩))), none, []⟩]
def r238_1 : List VOper := [
  ⟨some 3, .move (.t 0), none, []⟩,
  ⟨some 4, .call false (.c (.fn 156 [])) [.t 3], none, []⟩,
  ⟨some 5, .buildSlice 1 (.str ⟨#[]⟩) 8 [(0, .c (.d (.str ⟨#[]⟩))), (1, .c (.d (.str ⟨#[97]⟩))), (2, .c (.d (.str ⟨#[97, 49]⟩))), (3, .c (.d (.str ⟨#[49, 97]⟩))), (4, .c (.d (.str ⟨#[65]⟩))), (5, .c (.d (.str ⟨#[97, 98, 99, 100, 101, 102, 103, 104]⟩))), (6, .c (.d (.str ⟨#[97, 98, 99, 100, 101, 102, 103, 104, 105]⟩))), (7, .c (.d (.str ⟨#[97, 95, 98]⟩)))], none, []⟩,
  ⟨some 6, .call false (.c (.fn 196 [])) [.t 4, .t 5], none, []⟩,
  ⟨some 2, .move (.t 6), none, []⟩]
def v238 : VFn := ⟨1, [.tmp 2], (.seq (.region false 0 [0] r238_0) (.seq (.region false 0 [2] r238_1) .ret))⟩
/-! loop.example/g00461/laws.markIntS -/
def r344_0 : List VOper := [
  ⟨some 4, .move (.c (.d (.int .i64 0))), none, []⟩]
def r344_1 : List VOper := [
  ⟨some 5, .move (.c (.d (.int .i64 0))), none, []⟩]
def r344_2 : List VOper := [
  ⟨some 6, .move (.t 5), none, []⟩,
  ⟨some 7, .move (.t 0), none, []⟩,
  ⟨some 8, .len false (.t 7), none, []⟩,
  ⟨some 9, .bin .lss (.t 6) (.t 8), none, []⟩]
def r344_4 : List VOper := [
  ⟨some 12, .move (.t 0), none, []⟩,
  ⟨some 13, .move (.t 5), none, []⟩,
  ⟨some 14, .move (.t 1), none, []⟩,
  ⟨some 15, .indexAddr 1 none (.t 12) (.t 13), none, []⟩,
  ⟨none, .store false 1 (.t 15) (.t 14), none, []⟩]
def r344_5 : List VOper := [
  ⟨some 16, .move (.t 1), none, []⟩,
  ⟨some 17, .bin .add (.t 16) (.c (.d (.int .i64 1))), none, []⟩,
  ⟨some 1, .move (.t 17), none, []⟩]
def r344_3 : List VOper := [
  ⟨some 10, .move (.t 5), none, []⟩,
  ⟨some 11, .bin .add (.t 10) (.c (.d (.int .i64 1))), none, []⟩,
  ⟨some 5, .move (.t 11), none, []⟩]
def b344_0 : VCode := (.seq (.seq (.region false 0 [0, 1, 5, 9] r344_2) (.cond (.t 9) .skip (.exit 0))) (.seq (.block 1 (.seq (.region false 0 [0, 1, 5] r344_4) (.region false 0 [0, 1, 5] r344_5))) (.region false 0 [0, 1, 5] r344_3)))
def r344_6 : List VOper := [
  ⟨some 18, .move (.t 1), none, []⟩,
  ⟨some 4, .move (.t 18), none, []⟩]
def v344 : VFn := ⟨2, [.tmp 4], (.seq (.region false 0 [0, 1] r344_0) (.seq (.seq (.region false 0 [0, 1, 5] r344_1) (.block 0 (.loop [0, 1, 5] b344_0))) (.seq (.region false 0 [4] r344_6) .ret)))⟩
/-! loop.example/g00461/laws.heldIntS -/
def r345_0 : List VOper := [
  ⟨some 4, .move (.c (.d (.int .i64 0))), none, []⟩]
def r345_1 : List VOper := [
  ⟨some 5, .move (.c (.d (.int .i64 0))), none, []⟩]
def r345_2 : List VOper := [
  ⟨some 6, .move (.t 5), none, []⟩,
  ⟨some 7, .move (.t 0), none, []⟩,
  ⟨some 8, .len false (.t 7), none, []⟩,
  ⟨some 9, .bin .lss (.t 6) (.t 8), none, []⟩]
def r345_4 : List VOper := [
  ⟨some 12, .move (.t 0), none, []⟩,
  ⟨some 13, .move (.t 5), none, []⟩,
  ⟨some 14, .indexAddr 1 none (.t 12) (.t 13), none, []⟩,
  ⟨some 15, .load false 1 (.t 14), none, []⟩,
  ⟨some 16, .move (.t 1), none, []⟩,
  ⟨some 17, .bin .neq (.t 15) (.t 16), none, []⟩]
def r345_5 : List VOper := [
  ⟨some 4, .move (.c (.d (.int .i64 (-1)))), none, []⟩]
def r345_6 : List VOper := [
  ⟨some 18, .move (.t 1), none, []⟩,
  ⟨some 19, .bin .add (.t 18) (.c (.d (.int .i64 1))), none, []⟩,
  ⟨some 1, .move (.t 19), none, []⟩]
def r345_3 : List VOper := [
  ⟨some 10, .move (.t 5), none, []⟩,
  ⟨some 11, .bin .add (.t 10) (.c (.d (.int .i64 1))), none, []⟩,
  ⟨some 5, .move (.t 11), none, []⟩]
def b345_0 : VCode := (.seq (.seq (.region false 0 [0, 1, 5, 9] r345_2) (.cond (.t 9) .skip (.exit 0))) (.seq (.block 1 (.seq (.seq (.region false 0 [0, 1, 5, 17] r345_4) (.cond (.t 17) (.seq (.region false 0 [4] r345_5) .ret) .skip)) (.region false 0 [0, 1, 5] r345_6))) (.region false 0 [0, 1, 5] r345_3)))
def r345_7 : List VOper := [
  ⟨some 20, .move (.t 1), none, []⟩,
  ⟨some 4, .move (.t 20), none, []⟩]
def v345 : VFn := ⟨2, [.tmp 4], (.seq (.region false 0 [0, 1] r345_0) (.seq (.seq (.region false 0 [0, 1, 5] r345_1) (.block 0 (.loop [0, 1, 5] b345_0))) (.seq (.region false 0 [4] r345_7) .ret)))⟩
/-! loop.example/g00461/laws.eqIntSS -/
def r351_0 : List VOper := [
  ⟨some 4, .move (.c (.d (.bool false))), none, []⟩]
def r351_1 : List VOper := [
  ⟨some 6, .move (.t 0), none, []⟩,
  ⟨some 7, .len false (.t 6), none, []⟩,
  ⟨some 8, .move (.t 1), none, []⟩,
  ⟨some 9, .len false (.t 8), none, []⟩,
  ⟨some 10, .bin .neq (.t 7) (.t 9), none, []⟩]
def r351_2 : List VOper := [
  ⟨some 4, .move (.c (.d (.bool false))), none, []⟩]
def r351_3 : List VOper := [
  ⟨some 5, .move (.c (.d (.int .i64 0))), none, []⟩]
def r351_4 : List VOper := [
  ⟨some 11, .move (.t 5), none, []⟩,
  ⟨some 12, .move (.t 0), none, []⟩,
  ⟨some 13, .len false (.t 12), none, []⟩,
  ⟨some 14, .bin .lss (.t 11) (.t 13), none, []⟩]
def r351_6 : List VOper := [
  ⟨some 17, .move (.t 0), none, []⟩,
  ⟨some 18, .move (.t 5), none, []⟩,
  ⟨some 19, .indexAddr 1 none (.t 17) (.t 18), none, [0, 1]⟩,
  ⟨some 20, .load false 1 (.t 19), none, [2]⟩,
  ⟨some 21, .move (.t 1), none, []⟩,
  ⟨some 22, .move (.t 5), none, []⟩,
  ⟨some 23, .indexAddr 1 none (.t 21) (.t 22), none, [4, 5]⟩,
  ⟨some 24, .load false 1 (.t 23), none, [6]⟩,
  ⟨some 25, .call true (.c (.fn 44 [])) [.t 20, .t 24], none, [3, 7]⟩,
  ⟨some 26, .not (.t 25), none, [8]⟩]
def r351_7 : List VOper := [
  ⟨some 4, .move (.c (.d (.bool false))), none, []⟩]
def r351_5 : List VOper := [
  ⟨some 15, .move (.t 5), none, []⟩,
  ⟨some 16, .bin .add (.t 15) (.c (.d (.int .i64 1))), none, []⟩,
  ⟨some 5, .move (.t 16), none, []⟩]
def b351_0 : VCode := (.seq (.seq (.region false 0 [0, 1, 5, 14] r351_4) (.cond (.t 14) .skip (.exit 0))) (.seq (.block 1 (.seq (.region true 0 [0, 1, 5, 26] r351_6) (.cond (.t 26) (.seq (.region false 0 [4] r351_7) .ret) .skip))) (.region false 0 [0, 1, 5] r351_5)))
def r351_8 : List VOper := [
  ⟨some 4, .move (.c (.d (.bool true))), none, []⟩]
def v351 : VFn := ⟨2, [.tmp 4], (.seq (.region false 0 [0, 1] r351_0) (.seq (.seq (.region false 0 [0, 1, 10] r351_1) (.cond (.t 10) (.seq (.region false 0 [4] r351_2) .ret) .skip)) (.seq (.seq (.region false 0 [0, 1, 5] r351_3) (.block 0 (.loop [0, 1, 5] b351_0))) (.seq (.region false 0 [4] r351_8) .ret))))⟩
/-! loop.example/g00461/laws.markIntSS -/
def r352_0 : List VOper := [
  ⟨some 4, .move (.c (.d (.int .i64 0))), none, []⟩]
def r352_1 : List VOper := [
  ⟨some 5, .move (.c (.d (.int .i64 0))), none, []⟩]
def r352_2 : List VOper := [
  ⟨some 6, .move (.t 5), none, []⟩,
  ⟨some 7, .move (.t 0), none, []⟩,
  ⟨some 8, .len false (.t 7), none, []⟩,
  ⟨some 9, .bin .lss (.t 6) (.t 8), none, []⟩]
def r352_4 : List VOper := [
  ⟨some 12, .move (.t 0), none, []⟩,
  ⟨some 13, .move (.t 5), none, []⟩,
  ⟨some 14, .indexAddr 1 none (.t 12) (.t 13), none, []⟩,
  ⟨some 15, .load false 1 (.t 14), none, []⟩,
  ⟨some 16, .move (.t 1), none, []⟩,
  ⟨some 17, .call false (.c (.fn 344 [])) [.t 15, .t 16], none, []⟩,
  ⟨some 1, .move (.t 17), none, []⟩]
def r352_3 : List VOper := [
  ⟨some 10, .move (.t 5), none, []⟩,
  ⟨some 11, .bin .add (.t 10) (.c (.d (.int .i64 1))), none, []⟩,
  ⟨some 5, .move (.t 11), none, []⟩]
def b352_0 : VCode := (.seq (.seq (.region false 0 [0, 1, 5, 9] r352_2) (.cond (.t 9) .skip (.exit 0))) (.seq (.block 1 (.region false 0 [0, 1, 5] r352_4)) (.region false 0 [0, 1, 5] r352_3)))
def r352_5 : List VOper := [
  ⟨some 18, .move (.t 1), none, []⟩,
  ⟨some 4, .move (.t 18), none, []⟩]
def v352 : VFn := ⟨2, [.tmp 4], (.seq (.region false 0 [0, 1] r352_0) (.seq (.seq (.region false 0 [0, 1, 5] r352_1) (.block 0 (.loop [0, 1, 5] b352_0))) (.seq (.region false 0 [4] r352_5) .ret)))⟩
/-! loop.example/g00461/laws.FnBasisSums -/
def r354_0 : List VOper := [
  ⟨some 2, .move (.c (.d (.bool false))), none, []⟩]
def r354_1 : List VOper := [
  ⟨some 12, .move (.t 0), none, []⟩,
  ⟨some 13, .call true (.c (.fn 133 [])) [.t 12], none, []⟩]
def r354_2 : List VOper := [
  ⟨some 2, .move (.c (.d (.bool true))), none, []⟩]
def r354_3 : List VOper := [
  ⟨some 15, .move (.t 0), none, []⟩,
  ⟨some 16, .call true (.c (.fn 206 [])) [.t 15], none, []⟩,
  ⟨some 14, .move (.t 16), none, []⟩,
  ⟨some 17, .extract (.t 14) 0, none, []⟩,
  ⟨some 18, .extract (.t 14) 1, none, []⟩,
  ⟨some 3, .move (.t 17), none, []⟩,
  ⟨some 4, .move (.t 18), none, []⟩]
def r354_4 : List VOper := [
  ⟨some 20, .move (.t 3), none, []⟩,
  ⟨some 21, .move (.t 4), none, []⟩,
  ⟨some 22, .call true (.c (.fn 207 [])) [.t 20, .t 21], none, []⟩,
  ⟨some 19, .move (.t 22), none, []⟩,
  ⟨some 23, .extract (.t 19) 0, none, []⟩,
  ⟨some 24, .extract (.t 19) 1, none, []⟩,
  ⟨some 5, .move (.t 23), none, []⟩,
  ⟨some 6, .move (.t 24), none, []⟩]
def r354_5 : List VOper := [
  ⟨some 26, .move (.t 3), none, []⟩,
  ⟨some 27, .move (.t 4), none, []⟩,
  ⟨some 28, .call true (.c (.fn 208 [])) [.t 26, .t 27], none, []⟩,
  ⟨some 25, .move (.t 28), none, []⟩,
  ⟨some 29, .extract (.t 25) 0, none, []⟩,
  ⟨some 30, .extract (.t 25) 1, none, []⟩,
  ⟨some 7, .move (.t 29), none, []⟩,
  ⟨some 8, .move (.t 30), none, []⟩]
def r354_6 : List VOper := [
  ⟨some 31, .move (.t 6), none, []⟩,
  ⟨some 32, .move (.t 8), none, []⟩,
  ⟨some 33, .eqB true (.t 31) (.t 32), none, []⟩,
  ⟨some 34, .move (.t 33), none, []⟩,
  ⟨some 35, .move (.t 6), some (34, false), []⟩,
  ⟨some 36, .not (.t 35), some (34, false), []⟩,
  ⟨some 37, .pick (.t 34) (.c (.d (.bool true))) (.t 36), none, []⟩]
def r354_7 : List VOper := [
  ⟨some 38, .move (.t 6), none, []⟩,
  ⟨some 39, .move (.t 8), none, []⟩,
  ⟨some 40, .eqB false (.t 38) (.t 39), none, []⟩,
  ⟨some 2, .move (.t 40), none, []⟩]
def r354_8 : List VOper := [
  ⟨some 41, .buildSlice 1 (.sl .nil []) 0 [], none, []⟩,
  ⟨some 9, .move (.t 41), none, []⟩]
def r354_9 : List VOper := [
  ⟨some 10, .move (.c (.d (.int .i64 0))), none, []⟩]
def r354_10 : List VOper := [
  ⟨some 42, .move (.t 10), none, []⟩,
  ⟨some 43, .move (.t 5), none, []⟩,
  ⟨some 44, .len false (.t 43), none, []⟩,
  ⟨some 45, .bin .lss (.t 42) (.t 44), none, []⟩]
def r354_12 : List VOper := [
  ⟨some 11, .move (.c (.d (.int .i64 0))), none, []⟩]
def r354_13 : List VOper := [
  ⟨some 48, .move (.t 11), none, []⟩,
  ⟨some 49, .move (.t 0), none, []⟩,
  ⟨some 50, .move (.t 10), none, []⟩,
  ⟨some 51, .call true (.c (.fn 214 [])) [.t 49, .t 50], none, []⟩,
  ⟨some 52, .bin .rem (.t 51) (.c (.d (.int .i64 3))), none, []⟩,
  ⟨some 53, .bin .lss (.t 48) (.t 52), none, []⟩]
def r354_15 : List VOper := [
  ⟨some 56, .move (.t 9), none, []⟩,
  ⟨some 57, .move (.t 5), none, []⟩,
  ⟨some 58, .move (.t 10), none, []⟩,
  ⟨some 59, .indexAddr 1 none (.t 57) (.t 58), none, []⟩,
  ⟨some 60, .load false 1 (.t 59), none, []⟩,
  ⟨some 61, .buildSlice 1 (.sl .nil []) 1 [(0, .t 60)], none, []⟩,
  ⟨some 62, .append 1 24 (.t 56) (.t 61), none, []⟩,
  ⟨some 9, .move (.t 62), none, []⟩]
def r354_14 : List VOper := [
  ⟨some 54, .move (.t 11), none, []⟩,
  ⟨some 55, .bin .add (.t 54) (.c (.d (.int .i64 1))), none, []⟩,
  ⟨some 11, .move (.t 55), none, []⟩]
def b354_1 : VCode := (.seq (.seq (.region false 0 [0, 3, 4, 5, 9, 10, 11, 53] r354_13) (.cond (.t 53) .skip (.exit 2))) (.seq (.block 3 (.region false 0 [0, 3, 4, 5, 9, 10, 11] r354_15)) (.region false 0 [0, 3, 4, 5, 9, 10, 11] r354_14)))
def r354_11 : List VOper := [
  ⟨some 46, .move (.t 10), none, []⟩,
  ⟨some 47, .bin .add (.t 46) (.c (.d (.int .i64 1))), none, []⟩,
  ⟨some 10, .move (.t 47), none, []⟩]
def b354_0 : VCode := (.seq (.seq (.region false 0 [0, 3, 4, 5, 9, 10, 45] r354_10) (.cond (.t 45) .skip (.exit 0))) (.seq (.block 1 (.seq (.region false 0 [0, 3, 4, 5, 9, 10, 11] r354_12) (.block 2 (.loop [0, 3, 4, 5, 9, 10, 11] b354_1)))) (.region false 0 [0, 3, 4, 5, 9, 10] r354_11)))
def r354_16 : List VOper := [
  ⟨some 63, .move (.t 3), none, []⟩,
  ⟨some 64, .move (.t 4), none, []⟩,
  ⟨some 65, .move (.t 9), none, []⟩,
  ⟨some 66, .move (.t 3), none, []⟩,
  ⟨some 67, .len false (.t 66), none, []⟩,
  ⟨some 68, .move (.t 4), none, []⟩,
  ⟨some 69, .len false (.t 68), none, []⟩,
  ⟨some 70, .bin .add (.t 67) (.t 69), none, []⟩,
  ⟨some 71, .call true (.c (.fn 212 [])) [.t 65, .t 70], none, []⟩,
  ⟨some 72, .call true (.c (.fn 43 [])) [.t 63, .t 64, .t 71], none, []⟩,
  ⟨some 2, .move (.t 72), none, []⟩]
def v354 : VFn := ⟨1, [.tmp 2], (.seq (.region false 0 [0] r354_0) (.seq (.seq (.region false 0 [0, 13] r354_1) (.cond (.t 13) (.seq (.region false 0 [2] r354_2) .ret) .skip)) (.seq (.region false 0 [0, 3, 4] r354_3) (.seq (.region false 0 [0, 3, 4, 5, 6] r354_4) (.seq (.region false 0 [0, 3, 4, 5, 6, 8] r354_5) (.seq (.seq (.region false 0 [0, 3, 4, 5, 6, 8, 37] r354_6) (.cond (.t 37) (.seq (.region false 0 [2] r354_7) .ret) .skip)) (.seq (.region false 0 [0, 3, 4, 5, 9] r354_8) (.seq (.seq (.region false 0 [0, 3, 4, 5, 9, 10] r354_9) (.block 0 (.loop [0, 3, 4, 5, 9, 10] b354_0))) (.seq (.region false 0 [2] r354_16) .ret)))))))))⟩
/-! loop.example/g00461/laws.FnExactBasis -/
def r355_0 : List VOper := [
  ⟨some 4, .move (.c (.d (.bool false))), none, []⟩]
def r355_1 : List VOper := [
  ⟨some 16, .move (.t 0), none, []⟩,
  ⟨some 17, .len false (.t 16), none, []⟩,
  ⟨some 18, .bin .gtr (.t 17) (.c (.d (.int .i64 1048576))), none, []⟩]
def r355_2 : List VOper := [
  ⟨some 4, .move (.c (.d (.bool true))), none, []⟩]
def r355_3 : List VOper := [
  ⟨some 19, .move (.t 1), none, []⟩,
  ⟨some 20, .len false (.t 19), none, []⟩,
  ⟨some 21, .bin .gtr (.t 20) (.c (.d (.int .i64 1048576))), none, []⟩]
def r355_4 : List VOper := [
  ⟨some 4, .move (.c (.d (.bool true))), none, []⟩]
def r355_5 : List VOper := [
  ⟨some 23, .move (.t 0), none, []⟩,
  ⟨some 24, .call true (.c (.fn 41 [])) [.t 23], none, []⟩,
  ⟨some 25, .move (.t 1), none, []⟩,
  ⟨some 26, .call true (.c (.fn 41 [])) [.t 25], none, []⟩,
  ⟨some 27, .call true (.c (.fn 208 [])) [.t 24, .t 26], none, []⟩,
  ⟨some 22, .move (.t 27), none, []⟩,
  ⟨some 28, .extract (.t 22) 0, none, []⟩,
  ⟨some 29, .extract (.t 22) 1, none, []⟩,
  ⟨some 5, .move (.t 28), none, []⟩,
  ⟨some 6, .move (.t 29), none, []⟩]
def r355_6 : List VOper := [
  ⟨some 30, .move (.t 0), none, []⟩,
  ⟨some 31, .callT true (.c (.fn 41 [])) [.t 30], none, []⟩,
  ⟨some 7, .move (.t 31), none, []⟩]
def r355_7 : List VOper := [
  ⟨some 32, .move (.t 1), none, []⟩,
  ⟨some 33, .callT true (.c (.fn 41 [])) [.t 32], none, []⟩,
  ⟨some 8, .move (.t 33), none, []⟩]
def r355_8 : List VOper := [
  ⟨some 35, .move (.t 7), none, []⟩,
  ⟨some 36, .move (.t 8), none, []⟩,
  ⟨some 37, .callT true (.c (.fn 207 [])) [.t 35, .t 36], none, []⟩,
  ⟨some 34, .move (.t 37), none, []⟩,
  ⟨some 38, .extract (.t 34) 0, none, []⟩,
  ⟨some 39, .extract (.t 34) 1, none, []⟩,
  ⟨some 9, .move (.t 38), none, []⟩,
  ⟨some 10, .move (.t 39), none, []⟩]
def r355_9 : List VOper := [
  ⟨some 40, .move (.t 9), none, []⟩,
  ⟨some 41, .move (.t 5), none, []⟩,
  ⟨some 42, .callT false (.c (.fn 351 [])) [.t 40, .t 41], none, []⟩,
  ⟨some 43, .not (.t 42), none, []⟩,
  ⟨some 44, .move (.t 43), none, []⟩,
  ⟨some 45, .move (.t 10), some (44, false), []⟩,
  ⟨some 46, .move (.t 6), some (44, false), []⟩,
  ⟨some 47, .eqB true (.t 45) (.t 46), some (44, false), []⟩,
  ⟨some 48, .pick (.t 44) (.c (.d (.bool true))) (.t 47), none, []⟩]
def r355_10 : List VOper := [
  ⟨some 4, .move (.c (.d (.bool false))), none, []⟩]
def r355_11 : List VOper := [
  ⟨some 49, .move (.t 7), none, []⟩,
  ⟨some 50, .move (.t 0), none, []⟩,
  ⟨some 51, .call true (.c (.fn 41 [])) [.t 50], none, []⟩,
  ⟨some 52, .callT false (.c (.fn 44 [])) [.t 49, .t 51], none, []⟩,
  ⟨some 53, .not (.t 52), none, []⟩]
def r355_12 : List VOper := [
  ⟨some 4, .move (.c (.d (.bool false))), none, []⟩]
def r355_13 : List VOper := [
  ⟨some 54, .move (.t 8), none, []⟩,
  ⟨some 55, .move (.t 1), none, []⟩,
  ⟨some 56, .call true (.c (.fn 41 [])) [.t 55], none, []⟩,
  ⟨some 57, .callT false (.c (.fn 44 [])) [.t 54, .t 56], none, []⟩,
  ⟨some 58, .not (.t 57), none, []⟩]
def r355_14 : List VOper := [
  ⟨some 4, .move (.c (.d (.bool false))), none, []⟩]
def r355_15 : List VOper := [
  ⟨some 11, .move (.c (.d (.int .i64 1))), none, []⟩]
def r355_16 : List VOper := [
  ⟨some 59, .move (.t 7), none, []⟩,
  ⟨some 60, .move (.t 11), none, []⟩,
  ⟨some 61, .call false (.c (.fn 344 [])) [.t 59, .t 60], none, []⟩,
  ⟨some 11, .move (.t 61), none, []⟩]
def r355_17 : List VOper := [
  ⟨some 62, .move (.t 8), none, []⟩,
  ⟨some 63, .move (.t 11), none, []⟩,
  ⟨some 64, .call false (.c (.fn 344 [])) [.t 62, .t 63], none, []⟩,
  ⟨some 11, .move (.t 64), none, []⟩]
def r355_18 : List VOper := [
  ⟨some 65, .move (.t 11), none, []⟩,
  ⟨some 66, .bin .lss (.t 65) (.c (.d (.int .i64 0))), none, []⟩,
  ⟨some 67, .move (.t 66), none, []⟩,
  ⟨some 68, .move (.t 9), some (67, false), []⟩,
  ⟨some 69, .move (.t 5), some (67, false), []⟩,
  ⟨some 70, .callT false (.c (.fn 351 [])) [.t 68, .t 69], some (67, false), []⟩,
  ⟨some 71, .not (.t 70), some (67, false), []⟩,
  ⟨some 72, .pick (.t 67) (.c (.d (.bool true))) (.t 71), none, []⟩,
  ⟨some 73, .move (.t 72), none, []⟩,
  ⟨some 74, .move (.t 10), some (73, false), []⟩,
  ⟨some 75, .move (.t 6), some (73, false), []⟩,
  ⟨some 76, .eqB true (.t 74) (.t 75), some (73, false), []⟩,
  ⟨some 77, .pick (.t 73) (.c (.d (.bool true))) (.t 76), none, []⟩]
def r355_19 : List VOper := [
  ⟨some 4, .move (.c (.d (.bool false))), none, []⟩]
def r355_20 : List VOper := [
  ⟨some 12, .move (.c (.d (.int .i64 1))), none, []⟩]
def r355_21 : List VOper := [
  ⟨some 78, .move (.t 9), none, []⟩,
  ⟨some 79, .move (.t 12), none, []⟩,
  ⟨some 80, .call false (.c (.fn 352 [])) [.t 78, .t 79], none, []⟩,
  ⟨some 12, .move (.t 80), none, []⟩]
def r355_22 : List VOper := [
  ⟨some 13, .move (.c (.d (.int .i64 1))), none, []⟩]
def r355_23 : List VOper := [
  ⟨some 81, .move (.t 9), none, []⟩,
  ⟨some 82, .move (.t 13), none, []⟩,
  ⟨some 83, .call false (.c (.fn 356 [])) [.t 81, .t 82], none, []⟩,
  ⟨some 13, .move (.t 83), none, []⟩]
def r355_24 : List VOper := [
  ⟨some 84, .move (.t 13), none, []⟩,
  ⟨some 85, .bin .lss (.t 84) (.c (.d (.int .i64 0))), none, []⟩]
def r355_25 : List VOper := [
  ⟨some 4, .move (.c (.d (.bool false))), none, []⟩]
def r355_26 : List VOper := [
  ⟨some 86, .move (.t 13), none, []⟩,
  ⟨some 87, .move (.t 12), none, []⟩,
  ⟨some 88, .bin .neq (.t 86) (.t 87), none, []⟩]
def r355_27 : List VOper := [
  ⟨some 4, .move (.c (.d (.bool false))), none, []⟩]
def r355_28 : List VOper := [
  ⟨some 90, .move (.t 0), none, []⟩,
  ⟨some 91, .call true (.c (.fn 41 [])) [.t 90], none, []⟩,
  ⟨some 92, .move (.t 1), none, []⟩,
  ⟨some 93, .call true (.c (.fn 41 [])) [.t 92], none, []⟩,
  ⟨some 94, .call true (.c (.fn 207 [])) [.t 91, .t 93], none, []⟩,
  ⟨some 89, .move (.t 94), none, []⟩,
  ⟨some 95, .extract (.t 89) 0, none, []⟩,
  ⟨some 96, .extract (.t 89) 1, none, []⟩,
  ⟨some 14, .move (.t 95), none, []⟩,
  ⟨some 15, .move (.t 96), none, []⟩]
def r355_29 : List VOper := [
  ⟨some 97, .move (.t 14), none, []⟩,
  ⟨some 98, .move (.t 5), none, []⟩,
  ⟨some 99, .call true (.c (.fn 351 [])) [.t 97, .t 98], none, []⟩,
  ⟨some 100, .not (.t 99), none, []⟩,
  ⟨some 101, .move (.t 100), none, []⟩,
  ⟨some 102, .move (.t 15), some (101, false), []⟩,
  ⟨some 103, .move (.t 6), some (101, false), []⟩,
  ⟨some 104, .eqB true (.t 102) (.t 103), some (101, false), []⟩,
  ⟨some 105, .pick (.t 101) (.c (.d (.bool true))) (.t 104), none, []⟩]
def r355_30 : List VOper := [
  ⟨some 4, .move (.c (.d (.bool false))), none, []⟩]
def r355_31 : List VOper := [
  ⟨some 13, .move (.c (.d (.int .i64 1))), none, []⟩]
def r355_32 : List VOper := [
  ⟨some 106, .move (.t 9), none, []⟩,
  ⟨some 107, .move (.t 13), none, []⟩,
  ⟨some 108, .call false (.c (.fn 356 [])) [.t 106, .t 107], none, []⟩,
  ⟨some 13, .move (.t 108), none, []⟩]
def r355_33 : List VOper := [
  ⟨some 109, .move (.t 13), none, []⟩,
  ⟨some 110, .bin .lss (.t 109) (.c (.d (.int .i64 0))), none, []⟩]
def r355_34 : List VOper := [
  ⟨some 4, .move (.c (.d (.bool false))), none, []⟩]
def r355_35 : List VOper := [
  ⟨some 111, .move (.t 13), none, []⟩,
  ⟨some 112, .move (.t 12), none, []⟩,
  ⟨some 113, .bin .neq (.t 111) (.t 112), none, []⟩]
def r355_36 : List VOper := [
  ⟨some 4, .move (.c (.d (.bool false))), none, []⟩]
def r355_37 : List VOper := [
  ⟨some 4, .move (.c (.d (.bool true))), none, []⟩]
def v355 : VFn := ⟨2, [.tmp 4], (.seq (.region false 0 [0, 1] r355_0) (.seq (.seq (.region false 0 [0, 1, 18] r355_1) (.cond (.t 18) (.seq (.region false 0 [4] r355_2) .ret) .skip)) (.seq (.seq (.region false 0 [0, 1, 21] r355_3) (.cond (.t 21) (.seq (.region false 0 [4] r355_4) .ret) .skip)) (.seq (.region false 0 [0, 1, 5, 6] r355_5) (.seq (.region false 0 [0, 1, 5, 6, 7] r355_6) (.seq (.region false 0 [0, 1, 5, 6, 7, 8] r355_7) (.seq (.region false 0 [0, 1, 5, 6, 7, 8, 9, 10] r355_8) (.seq (.seq (.region false 0 [0, 1, 5, 6, 7, 8, 9, 10, 48] r355_9) (.cond (.t 48) (.seq (.region false 0 [4] r355_10) .ret) .skip)) (.seq (.seq (.region false 0 [0, 1, 5, 6, 7, 8, 9, 10, 53] r355_11) (.cond (.t 53) (.seq (.region false 0 [4] r355_12) .ret) .skip)) (.seq (.seq (.region false 0 [0, 1, 5, 6, 7, 8, 9, 10, 58] r355_13) (.cond (.t 58) (.seq (.region false 0 [4] r355_14) .ret) .skip)) (.seq (.region false 0 [0, 1, 5, 6, 7, 8, 9, 10, 11] r355_15) (.seq (.region false 0 [0, 1, 5, 6, 8, 9, 10, 11] r355_16) (.seq (.region false 0 [0, 1, 5, 6, 9, 10, 11] r355_17) (.seq (.seq (.region false 0 [0, 1, 5, 6, 9, 77] r355_18) (.cond (.t 77) (.seq (.region false 0 [4] r355_19) .ret) .skip)) (.seq (.region false 0 [0, 1, 5, 6, 9, 12] r355_20) (.seq (.region false 0 [0, 1, 5, 6, 9, 12] r355_21) (.seq (.region false 0 [0, 1, 5, 6, 9, 12, 13] r355_22) (.seq (.region false 0 [0, 1, 5, 6, 9, 12, 13] r355_23) (.seq (.seq (.region false 0 [0, 1, 5, 6, 9, 12, 13, 85] r355_24) (.cond (.t 85) (.seq (.region false 0 [4] r355_25) .ret) .skip)) (.seq (.seq (.region false 0 [0, 1, 5, 6, 9, 12, 88] r355_26) (.cond (.t 88) (.seq (.region false 0 [4] r355_27) .ret) .skip)) (.seq (.region false 0 [5, 6, 9, 12, 14, 15] r355_28) (.seq (.seq (.region false 0 [9, 12, 105] r355_29) (.cond (.t 105) (.seq (.region false 0 [4] r355_30) .ret) .skip)) (.seq (.region false 0 [9, 12, 13] r355_31) (.seq (.region false 0 [12, 13] r355_32) (.seq (.seq (.region false 0 [12, 13, 110] r355_33) (.cond (.t 110) (.seq (.region false 0 [4] r355_34) .ret) .skip)) (.seq (.seq (.region false 0 [113] r355_35) (.cond (.t 113) (.seq (.region false 0 [4] r355_36) .ret) .skip)) (.seq (.region false 0 [4] r355_37) .ret)))))))))))))))))))))))))))⟩
/-! loop.example/g00461/laws.heldIntSS -/
def r356_0 : List VOper := [
  ⟨some 4, .move (.c (.d (.int .i64 0))), none, []⟩]
def r356_1 : List VOper := [
  ⟨some 5, .move (.c (.d (.int .i64 0))), none, []⟩]
def r356_2 : List VOper := [
  ⟨some 6, .move (.t 5), none, []⟩,
  ⟨some 7, .move (.t 0), none, []⟩,
  ⟨some 8, .len false (.t 7), none, []⟩,
  ⟨some 9, .bin .lss (.t 6) (.t 8), none, []⟩]
def r356_4 : List VOper := [
  ⟨some 12, .move (.t 0), none, []⟩,
  ⟨some 13, .move (.t 5), none, []⟩,
  ⟨some 14, .indexAddr 1 none (.t 12) (.t 13), none, []⟩,
  ⟨some 15, .load false 1 (.t 14), none, []⟩,
  ⟨some 16, .move (.t 1), none, []⟩,
  ⟨some 17, .call false (.c (.fn 345 [])) [.t 15, .t 16], none, []⟩,
  ⟨some 1, .move (.t 17), none, []⟩]
def r356_5 : List VOper := [
  ⟨some 18, .move (.t 1), none, []⟩,
  ⟨some 19, .bin .lss (.t 18) (.c (.d (.int .i64 0))), none, []⟩]
def r356_6 : List VOper := [
  ⟨some 4, .move (.c (.d (.int .i64 (-1)))), none, []⟩]
def r356_3 : List VOper := [
  ⟨some 10, .move (.t 5), none, []⟩,
  ⟨some 11, .bin .add (.t 10) (.c (.d (.int .i64 1))), none, []⟩,
  ⟨some 5, .move (.t 11), none, []⟩]
def b356_0 : VCode := (.seq (.seq (.region false 0 [0, 1, 5, 9] r356_2) (.cond (.t 9) .skip (.exit 0))) (.seq (.block 1 (.seq (.region false 0 [0, 1, 5] r356_4) (.seq (.region false 0 [0, 1, 5, 19] r356_5) (.cond (.t 19) (.seq (.region false 0 [4] r356_6) .ret) .skip)))) (.region false 0 [0, 1, 5] r356_3)))
def r356_7 : List VOper := [
  ⟨some 20, .move (.t 1), none, []⟩,
  ⟨some 4, .move (.t 20), none, []⟩]
def v356 : VFn := ⟨2, [.tmp 4], (.seq (.region false 0 [0, 1] r356_0) (.seq (.seq (.region false 0 [0, 1, 5] r356_1) (.block 0 (.loop [0, 1, 5] b356_0))) (.seq (.region false 0 [4] r356_7) .ret)))⟩
def look : List (Nat × VFn) → Nat → Option VFn
  | [], _ => none
  | (k, v) :: r, n => if n = k then some v else look r n
def codes : List (Nat × VFn) := [(13, v13), (14, v14), (18, v18), (19, v19), (27, v27), (28, v28), (29, v29), (30, v30), (31, v31), (33, v33), (34, v34), (36, v36), (37, v37), (38, v38), (39, v39), (41, v41), (42, v42), (43, v43), (44, v44), (45, v45), (46, v46), (47, v47), (48, v48), (50, v50), (51, v51), (53, v53), (54, v54), (55, v55), (56, v56), (59, v59), (60, v60), (61, v61), (62, v62), (77, v77), (82, v82), (106, v106), (107, v107), (108, v108), (112, v112), (114, v114), (115, v115), (120, v120), (121, v121), (133, v133), (155, v155), (156, v156), (159, v159), (160, v160), (162, v162), (165, v165), (188, v188), (195, v195), (196, v196), (198, v198), (199, v199), (200, v200), (201, v201), (202, v202), (203, v203), (204, v204), (205, v205), (206, v206), (207, v207), (208, v208), (209, v209), (210, v210), (211, v211), (212, v212), (213, v213), (214, v214), (215, v215), (216, v216), (217, v217), (218, v218), (219, v219), (220, v220), (221, v221), (222, v222), (223, v223), (224, v224), (225, v225), (226, v226), (227, v227), (228, v228), (230, v230), (231, v231), (232, v232), (233, v233), (234, v234), (235, v235), (236, v236), (237, v237), (238, v238), (344, v344), (345, v345), (351, v351), (352, v352), (354, v354), (355, v355), (356, v356)]
def nats : List (Nat × (List DV → Option DV)) := [(106, numAddD), (93, joinD)]
def E : Env := ⟨look codes, fun k => (lookN nats k).map natV⟩
theorem code_13 : E.code 13 = some v13 := by kernel_rfl
theorem code_14 : E.code 14 = some v14 := by kernel_rfl
theorem code_18 : E.code 18 = some v18 := by kernel_rfl
theorem code_19 : E.code 19 = some v19 := by kernel_rfl
theorem code_27 : E.code 27 = some v27 := by kernel_rfl
theorem code_28 : E.code 28 = some v28 := by kernel_rfl
theorem code_29 : E.code 29 = some v29 := by kernel_rfl
theorem code_30 : E.code 30 = some v30 := by kernel_rfl
theorem code_31 : E.code 31 = some v31 := by kernel_rfl
theorem code_33 : E.code 33 = some v33 := by kernel_rfl
theorem code_34 : E.code 34 = some v34 := by kernel_rfl
theorem code_36 : E.code 36 = some v36 := by kernel_rfl
theorem code_37 : E.code 37 = some v37 := by kernel_rfl
theorem code_38 : E.code 38 = some v38 := by kernel_rfl
theorem code_39 : E.code 39 = some v39 := by kernel_rfl
theorem code_41 : E.code 41 = some v41 := by kernel_rfl
theorem code_42 : E.code 42 = some v42 := by kernel_rfl
theorem code_43 : E.code 43 = some v43 := by kernel_rfl
theorem code_44 : E.code 44 = some v44 := by kernel_rfl
theorem code_45 : E.code 45 = some v45 := by kernel_rfl
theorem code_46 : E.code 46 = some v46 := by kernel_rfl
theorem code_47 : E.code 47 = some v47 := by kernel_rfl
theorem code_48 : E.code 48 = some v48 := by kernel_rfl
theorem code_50 : E.code 50 = some v50 := by kernel_rfl
theorem code_51 : E.code 51 = some v51 := by kernel_rfl
theorem code_53 : E.code 53 = some v53 := by kernel_rfl
theorem code_54 : E.code 54 = some v54 := by kernel_rfl
theorem code_55 : E.code 55 = some v55 := by kernel_rfl
theorem code_56 : E.code 56 = some v56 := by kernel_rfl
theorem code_59 : E.code 59 = some v59 := by kernel_rfl
theorem code_60 : E.code 60 = some v60 := by kernel_rfl
theorem code_61 : E.code 61 = some v61 := by kernel_rfl
theorem code_62 : E.code 62 = some v62 := by kernel_rfl
theorem code_77 : E.code 77 = some v77 := by kernel_rfl
theorem code_82 : E.code 82 = some v82 := by kernel_rfl
theorem code_106 : E.code 106 = some v106 := by kernel_rfl
theorem code_107 : E.code 107 = some v107 := by kernel_rfl
theorem code_108 : E.code 108 = some v108 := by kernel_rfl
theorem code_112 : E.code 112 = some v112 := by kernel_rfl
theorem code_114 : E.code 114 = some v114 := by kernel_rfl
theorem code_115 : E.code 115 = some v115 := by kernel_rfl
theorem code_120 : E.code 120 = some v120 := by kernel_rfl
theorem code_121 : E.code 121 = some v121 := by kernel_rfl
theorem code_133 : E.code 133 = some v133 := by kernel_rfl
theorem code_155 : E.code 155 = some v155 := by kernel_rfl
theorem code_156 : E.code 156 = some v156 := by kernel_rfl
theorem code_159 : E.code 159 = some v159 := by kernel_rfl
theorem code_160 : E.code 160 = some v160 := by kernel_rfl
theorem code_162 : E.code 162 = some v162 := by kernel_rfl
theorem code_165 : E.code 165 = some v165 := by kernel_rfl
theorem code_188 : E.code 188 = some v188 := by kernel_rfl
theorem code_195 : E.code 195 = some v195 := by kernel_rfl
theorem code_196 : E.code 196 = some v196 := by kernel_rfl
theorem code_198 : E.code 198 = some v198 := by kernel_rfl
theorem code_199 : E.code 199 = some v199 := by kernel_rfl
theorem code_200 : E.code 200 = some v200 := by kernel_rfl
theorem code_201 : E.code 201 = some v201 := by kernel_rfl
theorem code_202 : E.code 202 = some v202 := by kernel_rfl
theorem code_203 : E.code 203 = some v203 := by kernel_rfl
theorem code_204 : E.code 204 = some v204 := by kernel_rfl
theorem code_205 : E.code 205 = some v205 := by kernel_rfl
theorem code_206 : E.code 206 = some v206 := by kernel_rfl
theorem code_207 : E.code 207 = some v207 := by kernel_rfl
theorem code_208 : E.code 208 = some v208 := by kernel_rfl
theorem code_209 : E.code 209 = some v209 := by kernel_rfl
theorem code_210 : E.code 210 = some v210 := by kernel_rfl
theorem code_211 : E.code 211 = some v211 := by kernel_rfl
theorem code_212 : E.code 212 = some v212 := by kernel_rfl
theorem code_213 : E.code 213 = some v213 := by kernel_rfl
theorem code_214 : E.code 214 = some v214 := by kernel_rfl
theorem code_215 : E.code 215 = some v215 := by kernel_rfl
theorem code_216 : E.code 216 = some v216 := by kernel_rfl
theorem code_217 : E.code 217 = some v217 := by kernel_rfl
theorem code_218 : E.code 218 = some v218 := by kernel_rfl
theorem code_219 : E.code 219 = some v219 := by kernel_rfl
theorem code_220 : E.code 220 = some v220 := by kernel_rfl
theorem code_221 : E.code 221 = some v221 := by kernel_rfl
theorem code_222 : E.code 222 = some v222 := by kernel_rfl
theorem code_223 : E.code 223 = some v223 := by kernel_rfl
theorem code_224 : E.code 224 = some v224 := by kernel_rfl
theorem code_225 : E.code 225 = some v225 := by kernel_rfl
theorem code_226 : E.code 226 = some v226 := by kernel_rfl
theorem code_227 : E.code 227 = some v227 := by kernel_rfl
theorem code_228 : E.code 228 = some v228 := by kernel_rfl
theorem code_230 : E.code 230 = some v230 := by kernel_rfl
theorem code_231 : E.code 231 = some v231 := by kernel_rfl
theorem code_232 : E.code 232 = some v232 := by kernel_rfl
theorem code_233 : E.code 233 = some v233 := by kernel_rfl
theorem code_234 : E.code 234 = some v234 := by kernel_rfl
theorem code_235 : E.code 235 = some v235 := by kernel_rfl
theorem code_236 : E.code 236 = some v236 := by kernel_rfl
theorem code_237 : E.code 237 = some v237 := by kernel_rfl
theorem code_238 : E.code 238 = some v238 := by kernel_rfl
theorem code_344 : E.code 344 = some v344 := by kernel_rfl
theorem code_345 : E.code 345 = some v345 := by kernel_rfl
theorem code_351 : E.code 351 = some v351 := by kernel_rfl
theorem code_352 : E.code 352 = some v352 := by kernel_rfl
theorem code_354 : E.code 354 = some v354 := by kernel_rfl
theorem code_355 : E.code 355 = some v355 := by kernel_rfl
theorem code_356 : E.code 356 = some v356 := by kernel_rfl
end Go.Proofs.Ytcffalienbbohaa.VS
