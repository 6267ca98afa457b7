/- The code of the functions that the laws reach, for the evaluator. -/
import Derived.Test.YtidlpcgcolcfgaaNat0
import Derived.KernelRfl
namespace Go.Proofs.Ytidlpcgcolcfgaa.VS
set_option linter.unusedVariables false
/-! loop.example/g00461/spec.SymOf -/
def r13_0 : List VOper := [
  ⟨some 4, .move (.c (.d (.int .i64 0))), none, []⟩]
def r13_1 : List VOper := [
  ⟨some 5, .move (.c (.d (.int .i64 0))), none, []⟩]
def r13_2 : List VOper := [
  ⟨some 6, .move (.t 5), none, []⟩,
  ⟨some 7, .move (.t 0), none, []⟩,
  ⟨some 8, .len false (.t 7), none, []⟩,
  ⟨some 9, .bin .lss (.t 6) (.t 8), none, []⟩]
def r13_4 : List VOper := [
  ⟨some 12, .move (.t 0), none, []⟩,
  ⟨some 13, .move (.t 5), none, []⟩,
  ⟨some 14, .indexAddr 3 none (.t 12) (.t 13), none, []⟩,
  ⟨some 15, .fieldAddr 0 (.t 14), none, []⟩,
  ⟨some 16, .load false 1 (.t 15), none, []⟩,
  ⟨some 17, .move (.t 1), none, []⟩,
  ⟨some 18, .bin .eql (.t 16) (.t 17), none, []⟩]
def r13_5 : List VOper := [
  ⟨some 19, .move (.t 5), none, []⟩,
  ⟨some 4, .move (.t 19), none, []⟩]
def r13_3 : List VOper := [
  ⟨some 10, .move (.t 5), none, []⟩,
  ⟨some 11, .bin .add (.t 10) (.c (.d (.int .i64 1))), none, []⟩,
  ⟨some 5, .move (.t 11), none, []⟩]
def b13_0 : VCode := (.seq (.seq (.region false 0 [0, 1, 5, 9] r13_2) (.cond (.t 9) .skip (.exit 0))) (.seq (.block 1 (.seq (.region false 0 [0, 1, 5, 18] r13_4) (.cond (.t 18) (.seq (.region false 0 [4] r13_5) .ret) .skip))) (.region false 0 [0, 1, 5] r13_3)))
def r13_6 : List VOper := [
  ⟨some 4, .move (.c (.d (.int .i64 (-1)))), none, []⟩]
def v13 : VFn := ⟨2, [.tmp 4], (.seq (.region false 0 [0, 1] r13_0) (.seq (.seq (.region false 0 [0, 1, 5] r13_1) (.block 0 (.loop [0, 1, 5] b13_0))) (.seq (.region false 0 [4] r13_6) .ret)))⟩
/-! loop.example/g00461/impl.SymOf -/
def r14_0 : List VOper := [
  ⟨some 3, .box 0 (.t 1), none, []⟩,
  ⟨some 4, .move (.c (.d (.int .i64 0))), none, []⟩]
def r14_1 : List VOper := [
  ⟨some 5, .move (.t 0), none, []⟩,
  ⟨some 6, .makeFunc 18 [.t 3], none, []⟩,
  ⟨some 7, .call false (.c (.fn 19 [])) [.t 5, .t 6], none, []⟩,
  ⟨some 4, .move (.t 7), none, []⟩]
def v14 : VFn := ⟨2, [.tmp 4], (.seq (.region false 1 [0, 3] r14_0) (.seq (.region false 0 [4] r14_1) .ret))⟩
/-! loop.example/g00461/impl.SymOf$1 -/
def r18_0 : List VOper := [
  ⟨some 2, .box 0 (.t 0), none, []⟩,
  ⟨some 3, .move (.c (.d (.bool false))), none, []⟩]
def r18_1 : List VOper := [
  ⟨some 4, .fieldAddr 0 (.t 2), none, []⟩,
  ⟨some 5, .load false 1 (.t 4), none, []⟩,
  ⟨some 6, .load false 1 (.t 1), none, []⟩,
  ⟨some 7, .bin .eql (.t 5) (.t 6), none, []⟩,
  ⟨some 3, .move (.t 7), none, []⟩]
def v18 : VFn := ⟨2, [.tmp 3], (.seq (.region false 1 [1, 2] r18_0) (.seq (.region false 0 [3] r18_1) .ret))⟩
/-! slices.IndexFunc[[]loop.example/g00461/impl.Sym,loop.example/g00461/impl.Sym] -/
def r19_0 : List VOper := [
  ⟨some 4, .move (.c (.d (.int .i64 0))), none, []⟩]
def r19_1 : List VOper := [
  ⟨some 6, .move (.t 0), none, []⟩,
  ⟨some 7, .len false (.t 6), none, []⟩,
  ⟨some 8, .move (.c (.d (.int .i64 0))), none, []⟩]
def r19_2 : List VOper := [
  ⟨some 9, .bin .lss (.t 8) (.t 7), none, []⟩]
def r19_3 : List VOper := [
  ⟨some 10, .move (.t 8), none, []⟩,
  ⟨some 5, .move (.t 10), none, []⟩]
def r19_4 : List VOper := [
  ⟨some 11, .move (.t 1), none, []⟩,
  ⟨some 12, .move (.t 0), none, []⟩,
  ⟨some 13, .move (.t 5), none, []⟩,
  ⟨some 14, .indexAddr 3 none (.t 12) (.t 13), none, []⟩,
  ⟨some 15, .load true 3 (.t 14), none, []⟩,
  ⟨some 16, .call false (.t 11) [.t 15], none, []⟩]
def r19_5 : List VOper := [
  ⟨some 17, .move (.t 5), none, []⟩,
  ⟨some 4, .move (.t 17), none, []⟩]
def r19_6 : List VOper := [
  ⟨some 18, .bin .add (.t 8) (.c (.d (.int .i64 1))), none, []⟩,
  ⟨some 8, .move (.t 18), none, []⟩]
def b19_0 : VCode := (.seq (.region false 0 [0, 1, 7, 8, 9] r19_2) (.seq (.cond (.t 9) .skip (.exit 0)) (.seq (.block 1 (.seq (.region false 0 [0, 1, 5, 7, 8] r19_3) (.seq (.region false 0 [0, 1, 5, 7, 8, 16] r19_4) (.cond (.t 16) (.seq (.region false 0 [4] r19_5) .ret) .skip)))) (.region false 0 [0, 1, 7, 8] r19_6))))
def r19_7 : List VOper := [
  ⟨some 4, .move (.c (.d (.int .i64 (-1)))), none, []⟩]
def v19 : VFn := ⟨2, [.tmp 4], (.seq (.region false 0 [0, 1] r19_0) (.seq (.seq (.region false 0 [0, 1, 7, 8] r19_1) (.block 0 (.loop [0, 1, 7, 8] b19_0))) (.seq (.region false 0 [4] r19_7) .ret)))⟩
/-! loop.example/g00461/spec.ArityOf -/
def r27_0 : List VOper := [
  ⟨some 4, .move (.c (.d (.int .i64 0))), none, []⟩]
def r27_1 : List VOper := [
  ⟨some 5, .move (.t 1), none, []⟩,
  ⟨some 6, .move (.t 0), none, []⟩,
  ⟨some 7, .len false (.t 6), none, []⟩,
  ⟨some 8, .bin .sub (.t 7) (.c (.d (.int .i64 1))), none, []⟩,
  ⟨some 9, .call true (.c (.fn 31 [])) [.t 5, .c (.d (.int .i64 0)), .t 8], none, []⟩,
  ⟨some 10, .not (.t 9), none, []⟩]
def r27_2 : List VOper := [
  ⟨some 4, .move (.c (.d (.int .i64 (-1)))), none, []⟩]
def r27_3 : List VOper := [
  ⟨some 11, .move (.t 0), none, []⟩,
  ⟨some 12, .move (.t 1), none, []⟩,
  ⟨some 13, .indexAddr 3 none (.t 11) (.t 12), none, []⟩,
  ⟨some 14, .fieldAddr 1 (.t 13), none, []⟩,
  ⟨some 15, .load false 1 (.t 14), none, []⟩,
  ⟨some 4, .move (.t 15), none, []⟩]
def v27 : VFn := ⟨2, [.tmp 4], (.seq (.region false 0 [0, 1] r27_0) (.seq (.seq (.region false 0 [0, 1, 10] r27_1) (.cond (.t 10) (.seq (.region false 0 [4] r27_2) .ret) .skip)) (.seq (.region false 0 [4] r27_3) .ret)))⟩
/-! loop.example/g00461/impl.ArityOf -/
def r28_0 : List VOper := [
  ⟨some 4, .move (.c (.d (.int .i64 0))), none, []⟩]
def r28_1 : List VOper := [
  ⟨some 5, .move (.t 0), none, []⟩,
  ⟨some 6, .move (.t 1), none, []⟩,
  ⟨some 7, .call true (.c (.fn 29 [])) [.t 5, .t 6], none, []⟩,
  ⟨some 8, .not (.t 7), none, []⟩]
def r28_2 : List VOper := [
  ⟨some 4, .move (.c (.d (.int .i64 (-1)))), none, []⟩]
def r28_3 : List VOper := [
  ⟨some 9, .move (.t 0), none, []⟩,
  ⟨some 10, .move (.t 1), none, []⟩,
  ⟨some 11, .indexAddr 3 none (.t 9) (.t 10), none, []⟩,
  ⟨some 12, .fieldAddr 1 (.t 11), none, []⟩,
  ⟨some 13, .load false 1 (.t 12), none, []⟩,
  ⟨some 4, .move (.t 13), none, []⟩]
def v28 : VFn := ⟨2, [.tmp 4], (.seq (.region false 0 [0, 1] r28_0) (.seq (.seq (.region false 0 [0, 1, 8] r28_1) (.cond (.t 8) (.seq (.region false 0 [4] r28_2) .ret) .skip)) (.seq (.region false 0 [4] r28_3) .ret)))⟩
/-! loop.example/g00461/impl.isSym -/
def r29_0 : List VOper := [
  ⟨some 4, .move (.c (.d (.bool false))), none, []⟩]
def r29_1 : List VOper := [
  ⟨some 5, .move (.t 1), none, []⟩,
  ⟨some 6, .move (.t 0), none, []⟩,
  ⟨some 7, .len false (.t 6), none, []⟩,
  ⟨some 8, .bin .sub (.t 7) (.c (.d (.int .i64 1))), none, []⟩,
  ⟨some 9, .call true (.c (.fn 30 [])) [.t 5, .c (.d (.int .i64 0)), .t 8], none, []⟩,
  ⟨some 4, .move (.t 9), none, []⟩]
def v29 : VFn := ⟨2, [.tmp 4], (.seq (.region false 0 [0, 1] r29_0) (.seq (.region false 0 [4] r29_1) .ret))⟩
/-! loop.example/g00461/impl.from -/
def r30_0 : List VOper := [
  ⟨some 6, .move (.c (.d (.bool false))), none, []⟩]
def r30_1 : List VOper := [
  ⟨some 7, .move (.t 0), none, []⟩,
  ⟨some 8, .move (.t 1), none, []⟩,
  ⟨some 9, .bin .geq (.t 7) (.t 8), none, []⟩,
  ⟨some 10, .move (.t 9), none, []⟩,
  ⟨some 11, .move (.t 0), some (10, true), []⟩,
  ⟨some 12, .move (.t 2), some (10, true), []⟩,
  ⟨some 13, .bin .leq (.t 11) (.t 12), some (10, true), []⟩,
  ⟨some 14, .pick (.t 10) (.t 13) (.c (.d (.bool false))), none, []⟩,
  ⟨some 6, .move (.t 14), none, []⟩]
def v30 : VFn := ⟨3, [.tmp 6], (.seq (.region false 0 [0, 1, 2] r30_0) (.seq (.region false 0 [6] r30_1) .ret))⟩
/-! loop.example/g00461/spec.l1In -/
def r31_0 : List VOper := [
  ⟨some 6, .move (.c (.d (.bool false))), none, []⟩]
def r31_1 : List VOper := [
  ⟨some 7, .move (.t 0), none, []⟩,
  ⟨some 8, .move (.t 1), none, []⟩,
  ⟨some 9, .bin .geq (.t 7) (.t 8), none, []⟩,
  ⟨some 10, .move (.t 9), none, []⟩,
  ⟨some 11, .move (.t 0), some (10, true), []⟩,
  ⟨some 12, .move (.t 2), some (10, true), []⟩,
  ⟨some 13, .bin .leq (.t 11) (.t 12), some (10, true), []⟩,
  ⟨some 14, .pick (.t 10) (.t 13) (.c (.d (.bool false))), none, []⟩,
  ⟨some 6, .move (.t 14), none, []⟩]
def v31 : VFn := ⟨3, [.tmp 6], (.seq (.region false 0 [0, 1, 2] r31_0) (.seq (.region false 0 [6] r31_1) .ret))⟩
/-! loop.example/g00461/spec.Blind -/
def r33_0 : List VOper := [
  ⟨some 4, .move (.c (.d (.bool false))), none, []⟩]
def r33_1 : List VOper := [
  ⟨some 5, .move (.t 1), none, []⟩,
  ⟨some 6, .move (.t 0), none, []⟩,
  ⟨some 7, .len false (.t 6), none, []⟩,
  ⟨some 8, .bin .sub (.t 7) (.c (.d (.int .i64 1))), none, []⟩,
  ⟨some 9, .call true (.c (.fn 31 [])) [.t 5, .c (.d (.int .i64 0)), .t 8], none, []⟩,
  ⟨some 10, .move (.t 9), none, []⟩,
  ⟨some 11, .move (.t 0), some (10, true), []⟩,
  ⟨some 12, .move (.t 1), some (10, true), []⟩,
  ⟨some 13, .indexAddr 3 none (.t 11) (.t 12), some (10, true), []⟩,
  ⟨some 14, .fieldAddr 2 (.t 13), some (10, true), []⟩,
  ⟨some 15, .load false 1 (.t 14), some (10, true), []⟩,
  ⟨some 16, .pick (.t 10) (.t 15) (.c (.d (.bool false))), none, []⟩,
  ⟨some 4, .move (.t 16), none, []⟩]
def v33 : VFn := ⟨2, [.tmp 4], (.seq (.region false 0 [0, 1] r33_0) (.seq (.region false 0 [4] r33_1) .ret))⟩
/-! loop.example/g00461/impl.Blind -/
def r34_0 : List VOper := [
  ⟨some 4, .move (.c (.d (.bool false))), none, []⟩]
def r34_1 : List VOper := [
  ⟨some 5, .move (.t 0), none, []⟩,
  ⟨some 6, .move (.t 1), none, []⟩,
  ⟨some 7, .call true (.c (.fn 29 [])) [.t 5, .t 6], none, []⟩,
  ⟨some 8, .move (.t 7), none, []⟩,
  ⟨some 9, .move (.t 0), some (8, true), []⟩,
  ⟨some 10, .move (.t 1), some (8, true), []⟩,
  ⟨some 11, .indexAddr 3 none (.t 9) (.t 10), some (8, true), []⟩,
  ⟨some 12, .fieldAddr 2 (.t 11), some (8, true), []⟩,
  ⟨some 13, .load false 1 (.t 12), some (8, true), []⟩,
  ⟨some 14, .pick (.t 8) (.t 13) (.c (.d (.bool false))), none, []⟩,
  ⟨some 4, .move (.t 14), none, []⟩]
def v34 : VFn := ⟨2, [.tmp 4], (.seq (.region false 0 [0, 1] r34_0) (.seq (.region false 0 [4] r34_1) .ret))⟩
/-! loop.example/g00461/impl.Digits -/
def r38_0 : List VOper := [
  ⟨some 2, .move (.c (.d (.str ⟨#[]⟩))), none, []⟩]
def r38_1 : List VOper := [
  ⟨some 4, .move (.t 0), none, []⟩,
  ⟨some 5, .bin .lss (.t 4) (.c (.d (.int .i64 0))), none, []⟩,
  ⟨some 6, .move (.t 5), none, []⟩,
  ⟨some 7, .move (.t 0), some (6, true), []⟩,
  ⟨some 8, .bin .gtr (.t 7) (.c (.d (.int .i64 (-10)))), some (6, true), []⟩,
  ⟨some 9, .pick (.t 6) (.t 8) (.c (.d (.bool false))), none, []⟩,
  ⟨some 3, .move (.t 9), none, []⟩]
def r38_2 : List VOper := [
  ⟨some 10, .move (.t 0), none, []⟩,
  ⟨some 11, .bin .sub (.c (.d (.int .i64 0))) (.t 10), none, []⟩,
  ⟨some 12, .call true (.c (.fn 38 [])) [.t 11], none, []⟩,
  ⟨some 13, .bin .add (.c (.d (.str ⟨#[45]⟩))) (.t 12), none, []⟩,
  ⟨some 2, .move (.t 13), none, []⟩]
def r38_3 : List VOper := [
  ⟨some 15, .move (.t 0), none, []⟩,
  ⟨some 16, .bin .lss (.t 15) (.c (.d (.int .i64 0))), none, []⟩,
  ⟨some 14, .move (.t 16), none, []⟩]
def r38_4 : List VOper := [
  ⟨some 17, .move (.t 0), none, []⟩,
  ⟨some 18, .bin .quo (.t 17) (.c (.d (.int .i64 10))), none, []⟩,
  ⟨some 19, .call true (.c (.fn 38 [])) [.t 18], none, []⟩,
  ⟨some 20, .move (.t 0), none, []⟩,
  ⟨some 21, .bin .rem (.t 20) (.c (.d (.int .i64 10))), none, []⟩,
  ⟨some 22, .bin .sub (.c (.d (.int .i64 0))) (.t 21), none, []⟩,
  ⟨some 23, .call true (.c (.fn 38 [])) [.t 22], none, []⟩,
  ⟨some 24, .bin .add (.t 19) (.t 23), none, []⟩,
  ⟨some 2, .move (.t 24), none, []⟩]
def r38_5 : List VOper := [
  ⟨some 26, .move (.t 0), none, []⟩,
  ⟨some 27, .bin .lss (.t 26) (.c (.d (.int .i64 10))), none, []⟩,
  ⟨some 25, .move (.t 27), none, []⟩]
def r38_6 : List VOper := [
  ⟨some 28, .move (.t 0), none, []⟩,
  ⟨some 29, .bin .add (.c (.d (.int .i64 48))) (.t 28), none, []⟩,
  ⟨some 30, .conv (.kind .i32) (.t 29), none, []⟩,
  ⟨some 31, .conv .rune (.t 30), none, []⟩,
  ⟨some 2, .move (.t 31), none, []⟩]
def r38_7 : List VOper := [
  ⟨some 32, .move (.t 0), none, []⟩,
  ⟨some 33, .bin .quo (.t 32) (.c (.d (.int .i64 10))), none, []⟩,
  ⟨some 34, .call true (.c (.fn 38 [])) [.t 33], none, []⟩,
  ⟨some 35, .move (.t 0), none, []⟩,
  ⟨some 36, .bin .rem (.t 35) (.c (.d (.int .i64 10))), none, []⟩,
  ⟨some 37, .bin .add (.c (.d (.int .i64 48))) (.t 36), none, []⟩,
  ⟨some 38, .conv (.kind .i32) (.t 37), none, []⟩,
  ⟨some 39, .conv .rune (.t 38), none, []⟩,
  ⟨some 40, .bin .add (.t 34) (.t 39), none, []⟩,
  ⟨some 2, .move (.t 40), none, []⟩]
def v38 : VFn := ⟨1, [.tmp 2], (.seq (.region false 0 [0] r38_0) (.seq (.block 0 (.seq (.region false 0 [0, 3] r38_1) (.cond (.t 3) (.seq (.region false 0 [2] r38_2) .ret) (.seq (.region false 0 [0, 14] r38_3) (.cond (.t 14) (.seq (.region false 0 [2] r38_4) .ret) (.seq (.region false 0 [0, 25] r38_5) (.cond (.t 25) (.seq (.region false 0 [2] r38_6) .ret) .skip))))))) (.seq (.region false 0 [2] r38_7) .ret)))⟩
/-! loop.example/g00461/spec.Digits -/
def r39_0 : List VOper := [
  ⟨some 2, .move (.c (.d (.str ⟨#[]⟩))), none, []⟩]
def r39_1 : List VOper := [
  ⟨some 6, .move (.t 0), none, []⟩,
  ⟨some 7, .bin .eql (.t 6) (.c (.d (.int .i64 0))), none, []⟩]
def r39_2 : List VOper := [
  ⟨some 2, .move (.c (.d (.str ⟨#[48]⟩))), none, []⟩]
def r39_3 : List VOper := [
  ⟨some 8, .move (.t 0), none, []⟩,
  ⟨some 9, .bin .lss (.t 8) (.c (.d (.int .i64 0))), none, []⟩,
  ⟨some 3, .move (.t 9), none, []⟩]
def r39_4 : List VOper := [
  ⟨some 4, .move (.c (.d (.str ⟨#[]⟩))), none, []⟩]
def r39_5 : List VOper := [
  ⟨some 10, .move (.t 0), none, []⟩,
  ⟨some 11, .bin .neq (.t 10) (.c (.d (.int .i64 0))), none, []⟩]
def r39_6 : List VOper := [
  ⟨some 12, .move (.t 0), none, []⟩,
  ⟨some 13, .bin .rem (.t 12) (.c (.d (.int .i64 10))), none, []⟩,
  ⟨some 5, .move (.t 13), none, []⟩]
def r39_7 : List VOper := [
  ⟨some 14, .move (.t 5), none, []⟩,
  ⟨some 15, .bin .lss (.t 14) (.c (.d (.int .i64 0))), none, []⟩]
def r39_8 : List VOper := [
  ⟨some 16, .move (.t 5), none, []⟩,
  ⟨some 17, .bin .sub (.c (.d (.int .i64 0))) (.t 16), none, []⟩,
  ⟨some 5, .move (.t 17), none, []⟩]
def r39_9 : List VOper := [
  ⟨some 18, .move (.t 5), none, []⟩,
  ⟨some 19, .bin .add (.c (.d (.int .i64 48))) (.t 18), none, []⟩,
  ⟨some 20, .conv (.kind .u8) (.t 19), none, []⟩,
  ⟨some 21, .buildSlice 1 (.int .u8 0) 1 [(0, .t 20)], none, []⟩,
  ⟨some 22, .conv .bytes (.t 21), none, []⟩,
  ⟨some 23, .move (.t 4), none, []⟩,
  ⟨some 24, .bin .add (.t 22) (.t 23), none, []⟩,
  ⟨some 4, .move (.t 24), none, []⟩]
def r39_10 : List VOper := [
  ⟨some 25, .move (.t 0), none, []⟩,
  ⟨some 26, .bin .quo (.t 25) (.c (.d (.int .i64 10))), none, []⟩,
  ⟨some 0, .move (.t 26), none, []⟩]
def b39_0 : VCode := (.seq (.seq (.region false 0 [0, 3, 4, 11] r39_5) (.cond (.t 11) .skip (.exit 0))) (.block 1 (.seq (.region false 0 [0, 3, 4, 5] r39_6) (.seq (.seq (.region false 0 [0, 3, 4, 5, 15] r39_7) (.cond (.t 15) (.region false 0 [0, 3, 4, 5] r39_8) .skip)) (.seq (.region false 0 [0, 3, 4] r39_9) (.region false 0 [0, 3, 4] r39_10))))))
def r39_11 : List VOper := [
  ⟨some 27, .move (.t 3), none, []⟩]
def r39_12 : List VOper := [
  ⟨some 28, .move (.t 4), none, []⟩,
  ⟨some 29, .bin .add (.c (.d (.str ⟨#[45]⟩))) (.t 28), none, []⟩,
  ⟨some 2, .move (.t 29), none, []⟩]
def r39_13 : List VOper := [
  ⟨some 30, .move (.t 4), none, []⟩,
  ⟨some 2, .move (.t 30), none, []⟩]
def v39 : VFn := ⟨1, [.tmp 2], (.seq (.region false 0 [0] r39_0) (.seq (.seq (.region false 0 [0, 7] r39_1) (.cond (.t 7) (.seq (.region false 0 [2] r39_2) .ret) .skip)) (.seq (.region false 0 [0, 3] r39_3) (.seq (.region false 0 [0, 3, 4] r39_4) (.seq (.block 0 (.loop [0, 3, 4] b39_0)) (.seq (.seq (.region false 0 [4, 27] r39_11) (.cond (.t 27) (.seq (.region false 0 [2] r39_12) .ret) .skip)) (.seq (.region false 0 [2] r39_13) .ret)))))))⟩
/-! loop.example/g00461/spec.NameOk -/
def r59_0 : List VOper := [
  ⟨some 2, .move (.c (.d (.bool false))), none, []⟩]
def r59_1 : List VOper := [
  ⟨some 3, .move (.c (.d (.int .i64 0))), none, []⟩]
def r59_2 : List VOper := [
  ⟨some 4, .move (.t 3), none, []⟩,
  ⟨some 5, .move (.t 0), none, []⟩,
  ⟨some 6, .len true (.t 5), none, []⟩,
  ⟨some 7, .bin .lss (.t 4) (.t 6), none, []⟩]
def r59_4 : List VOper := [
  ⟨some 10, .move (.t 0), none, []⟩,
  ⟨some 11, .move (.t 3), none, []⟩,
  ⟨some 12, .index (.t 10) (.t 11), none, []⟩,
  ⟨some 13, .bin .geq (.t 12) (.c (.d (.int .u8 97))), none, []⟩,
  ⟨some 14, .move (.t 13), none, []⟩,
  ⟨some 15, .move (.t 0), some (14, true), []⟩,
  ⟨some 16, .move (.t 3), some (14, true), []⟩,
  ⟨some 17, .index (.t 15) (.t 16), some (14, true), []⟩,
  ⟨some 18, .bin .leq (.t 17) (.c (.d (.int .u8 122))), some (14, true), []⟩,
  ⟨some 19, .pick (.t 14) (.t 18) (.c (.d (.bool false))), none, []⟩,
  ⟨some 20, .move (.t 19), none, []⟩,
  ⟨some 21, .move (.t 3), some (20, false), []⟩,
  ⟨some 22, .bin .gtr (.t 21) (.c (.d (.int .i64 0))), some (20, false), []⟩,
  ⟨some 23, .move (.t 22), some (20, false), []⟩,
  ⟨some 24, .move (.t 0), some (23, true), []⟩,
  ⟨some 25, .move (.t 3), some (23, true), []⟩,
  ⟨some 26, .index (.t 24) (.t 25), some (23, true), []⟩,
  ⟨some 27, .bin .geq (.t 26) (.c (.d (.int .u8 48))), some (23, true), []⟩,
  ⟨some 28, .pick (.t 23) (.t 27) (.c (.d (.bool false))), some (20, false), []⟩,
  ⟨some 29, .move (.t 28), some (20, false), []⟩,
  ⟨some 30, .move (.t 0), some (29, true), []⟩,
  ⟨some 31, .move (.t 3), some (29, true), []⟩,
  ⟨some 32, .index (.t 30) (.t 31), some (29, true), []⟩,
  ⟨some 33, .bin .leq (.t 32) (.c (.d (.int .u8 57))), some (29, true), []⟩,
  ⟨some 34, .pick (.t 29) (.t 33) (.c (.d (.bool false))), some (20, false), []⟩,
  ⟨some 35, .pick (.t 20) (.c (.d (.bool true))) (.t 34), none, []⟩,
  ⟨some 36, .not (.t 35), none, []⟩]
def r59_5 : List VOper := [
  ⟨some 2, .move (.c (.d (.bool false))), none, []⟩]
def r59_3 : List VOper := [
  ⟨some 8, .move (.t 3), none, []⟩,
  ⟨some 9, .bin .add (.t 8) (.c (.d (.int .i64 1))), none, []⟩,
  ⟨some 3, .move (.t 9), none, []⟩]
def b59_0 : VCode := (.seq (.seq (.region false 0 [0, 3, 7] r59_2) (.cond (.t 7) .skip (.exit 0))) (.seq (.block 1 (.seq (.region false 0 [0, 3, 36] r59_4) (.cond (.t 36) (.seq (.region false 0 [2] r59_5) .ret) .skip))) (.region false 0 [0, 3] r59_3)))
def r59_6 : List VOper := [
  ⟨some 37, .move (.t 0), none, []⟩,
  ⟨some 38, .len true (.t 37), none, []⟩,
  ⟨some 39, .call true (.c (.fn 31 [])) [.t 38, .c (.d (.int .i64 1)), .c (.d (.int .i64 8))], none, []⟩,
  ⟨some 2, .move (.t 39), none, []⟩]
def v59 : VFn := ⟨1, [.tmp 2], (.seq (.region false 0 [0] r59_0) (.seq (.seq (.region false 0 [0, 3] r59_1) (.block 0 (.loop [0, 3] b59_0))) (.seq (.region false 0 [2] r59_6) .ret)))⟩
/-! loop.example/g00461/impl.NameOk -/
def r60_0 : List VOper := [
  ⟨some 2, .move (.c (.d (.bool false))), none, []⟩]
def r60_1 : List VOper := [
  ⟨some 4, .move (.t 0), none, []⟩,
  ⟨some 5, .len true (.t 4), none, []⟩,
  ⟨some 6, .move (.c (.d (.int .i64 0))), none, []⟩]
def r60_2 : List VOper := [
  ⟨some 7, .bin .lss (.t 6) (.t 5), none, []⟩]
def r60_3 : List VOper := [
  ⟨some 8, .move (.t 6), none, []⟩,
  ⟨some 3, .move (.t 8), none, []⟩]
def r60_4 : List VOper := [
  ⟨some 9, .move (.t 0), none, []⟩,
  ⟨some 10, .move (.t 3), none, []⟩,
  ⟨some 11, .index (.t 9) (.t 10), none, []⟩,
  ⟨some 12, .call true (.c (.fn 61 [])) [.t 11], none, []⟩,
  ⟨some 13, .not (.t 12), none, []⟩,
  ⟨some 14, .move (.t 13), none, []⟩,
  ⟨some 15, .move (.t 0), some (14, true), []⟩,
  ⟨some 16, .move (.t 3), some (14, true), []⟩,
  ⟨some 17, .index (.t 15) (.t 16), some (14, true), []⟩,
  ⟨some 18, .call true (.c (.fn 62 [])) [.t 17], some (14, true), []⟩,
  ⟨some 19, .not (.t 18), some (14, true), []⟩,
  ⟨some 20, .pick (.t 14) (.t 19) (.c (.d (.bool false))), none, []⟩]
def r60_5 : List VOper := [
  ⟨some 2, .move (.c (.d (.bool false))), none, []⟩]
def r60_6 : List VOper := [
  ⟨some 21, .bin .add (.t 6) (.c (.d (.int .i64 1))), none, []⟩,
  ⟨some 6, .move (.t 21), none, []⟩]
def b60_0 : VCode := (.seq (.region false 0 [0, 5, 6, 7] r60_2) (.seq (.cond (.t 7) .skip (.exit 0)) (.seq (.block 1 (.seq (.region false 0 [0, 3, 5, 6] r60_3) (.seq (.region false 0 [0, 5, 6, 20] r60_4) (.cond (.t 20) (.seq (.region false 0 [2] r60_5) .ret) .skip)))) (.region false 0 [0, 5, 6] r60_6))))
def r60_7 : List VOper := [
  ⟨some 22, .move (.t 0), none, []⟩,
  ⟨some 23, .len true (.t 22), none, []⟩,
  ⟨some 24, .call true (.c (.fn 30 [])) [.t 23, .c (.d (.int .i64 1)), .c (.d (.int .i64 8))], none, []⟩,
  ⟨some 25, .move (.t 24), none, []⟩,
  ⟨some 26, .move (.t 0), some (25, true), []⟩,
  ⟨some 27, .index (.t 26) (.c (.d (.int .i64 0))), some (25, true), []⟩,
  ⟨some 28, .call true (.c (.fn 61 [])) [.t 27], some (25, true), []⟩,
  ⟨some 29, .pick (.t 25) (.t 28) (.c (.d (.bool false))), none, []⟩,
  ⟨some 2, .move (.t 29), none, []⟩]
def v60 : VFn := ⟨1, [.tmp 2], (.seq (.region false 0 [0] r60_0) (.seq (.seq (.region false 0 [0, 5, 6] r60_1) (.block 0 (.loop [0, 5, 6] b60_0))) (.seq (.region false 0 [2] r60_7) .ret)))⟩
/-! loop.example/g00461/impl.isSmall -/
def r61_0 : List VOper := [
  ⟨some 2, .move (.c (.d (.bool false))), none, []⟩]
def r61_1 : List VOper := [
  ⟨some 3, .move (.t 0), none, []⟩,
  ⟨some 4, .bin .geq (.t 3) (.c (.d (.int .u8 97))), none, []⟩,
  ⟨some 5, .move (.t 4), none, []⟩,
  ⟨some 6, .move (.t 0), some (5, true), []⟩,
  ⟨some 7, .bin .leq (.t 6) (.c (.d (.int .u8 122))), some (5, true), []⟩,
  ⟨some 8, .pick (.t 5) (.t 7) (.c (.d (.bool false))), none, []⟩,
  ⟨some 2, .move (.t 8), none, []⟩]
def v61 : VFn := ⟨1, [.tmp 2], (.seq (.region false 0 [0] r61_0) (.seq (.region false 0 [2] r61_1) .ret))⟩
/-! loop.example/g00461/impl.isDigit -/
def r62_0 : List VOper := [
  ⟨some 2, .move (.c (.d (.bool false))), none, []⟩]
def r62_1 : List VOper := [
  ⟨some 3, .move (.t 0), none, []⟩,
  ⟨some 4, .bin .geq (.t 3) (.c (.d (.int .u8 48))), none, []⟩,
  ⟨some 5, .move (.t 4), none, []⟩,
  ⟨some 6, .move (.t 0), some (5, true), []⟩,
  ⟨some 7, .bin .leq (.t 6) (.c (.d (.int .u8 57))), some (5, true), []⟩,
  ⟨some 8, .pick (.t 5) (.t 7) (.c (.d (.bool false))), none, []⟩,
  ⟨some 2, .move (.t 8), none, []⟩]
def v62 : VFn := ⟨1, [.tmp 2], (.seq (.region false 0 [0] r62_0) (.seq (.region false 0 [2] r62_1) .ret))⟩
/-! loop.example/g00461/impl.SigOk -/
def r77_0 : List VOper := [
  ⟨some 2, .move (.c (.d (.bool false))), none, []⟩]
def r77_1 : List VOper := [
  ⟨some 5, .move (.t 0), none, []⟩,
  ⟨some 6, .len false (.t 5), none, []⟩,
  ⟨some 7, .move (.c (.d (.int .i64 0))), none, []⟩]
def r77_2 : List VOper := [
  ⟨some 8, .bin .lss (.t 7) (.t 6), none, []⟩]
def r77_3 : List VOper := [
  ⟨some 9, .move (.t 7), none, []⟩,
  ⟨some 10, .indexAddr 3 none (.t 5) (.t 7), none, []⟩,
  ⟨some 11, .load true 3 (.t 10), none, []⟩,
  ⟨some 4, .alloc 0 [.str ⟨#[]⟩, .int .i64 0, .bool false], none, []⟩,
  ⟨some 3, .move (.t 9), none, []⟩,
  ⟨none, .store false 3 (.t 4) (.t 11), none, []⟩]
def r77_4 : List VOper := [
  ⟨some 12, .fieldAddr 0 (.t 4), none, []⟩,
  ⟨some 13, .load false 1 (.t 12), none, []⟩,
  ⟨some 14, .call true (.c (.fn 60 [])) [.t 13], none, []⟩,
  ⟨some 15, .not (.t 14), none, []⟩,
  ⟨some 16, .move (.t 15), none, []⟩,
  ⟨some 17, .move (.t 0), some (16, false), []⟩,
  ⟨some 18, .fieldAddr 0 (.t 4), some (16, false), []⟩,
  ⟨some 19, .load false 1 (.t 18), some (16, false), []⟩,
  ⟨some 20, .call true (.c (.fn 14 [])) [.t 17, .t 19], some (16, false), []⟩,
  ⟨some 21, .move (.t 3), some (16, false), []⟩,
  ⟨some 22, .bin .neq (.t 20) (.t 21), some (16, false), []⟩,
  ⟨some 23, .pick (.t 16) (.c (.d (.bool true))) (.t 22), none, []⟩,
  ⟨some 24, .move (.t 23), none, []⟩,
  ⟨some 25, .fieldAddr 1 (.t 4), some (24, false), []⟩,
  ⟨some 26, .load false 1 (.t 25), some (24, false), []⟩,
  ⟨some 27, .call true (.c (.fn 30 [])) [.t 26, .c (.d (.int .i64 0)), .c (.d (.int .i64 3))], some (24, false), []⟩,
  ⟨some 28, .not (.t 27), some (24, false), []⟩,
  ⟨some 29, .pick (.t 24) (.c (.d (.bool true))) (.t 28), none, []⟩,
  ⟨some 30, .move (.t 29), none, []⟩,
  ⟨some 31, .fieldAddr 2 (.t 4), some (30, false), []⟩,
  ⟨some 32, .load false 1 (.t 31), some (30, false), []⟩,
  ⟨some 33, .move (.t 32), some (30, false), []⟩,
  ⟨some 34, .fieldAddr 1 (.t 4), some (33, true), []⟩,
  ⟨some 35, .load false 1 (.t 34), some (33, true), []⟩,
  ⟨some 36, .bin .neq (.t 35) (.c (.d (.int .i64 2))), some (33, true), []⟩,
  ⟨some 37, .pick (.t 33) (.t 36) (.c (.d (.bool false))), some (30, false), []⟩,
  ⟨some 38, .pick (.t 30) (.c (.d (.bool true))) (.t 37), none, []⟩]
def r77_5 : List VOper := [
  ⟨some 2, .move (.c (.d (.bool false))), none, []⟩]
def r77_6 : List VOper := [
  ⟨some 39, .bin .add (.t 7) (.c (.d (.int .i64 1))), none, []⟩,
  ⟨some 7, .move (.t 39), none, []⟩]
def b77_0 : VCode := (.seq (.region false 0 [0, 5, 6, 7, 8] r77_2) (.seq (.cond (.t 8) .skip (.exit 0)) (.seq (.block 1 (.seq (.region false 1 [0, 3, 4, 5, 6, 7] r77_3) (.seq (.region false 0 [0, 5, 6, 7, 38] r77_4) (.cond (.t 38) (.seq (.region false 0 [2] r77_5) .ret) .skip)))) (.region false 0 [0, 5, 6, 7] r77_6))))
def r77_7 : List VOper := [
  ⟨some 40, .move (.t 0), none, []⟩,
  ⟨some 41, .len false (.t 40), none, []⟩,
  ⟨some 42, .call true (.c (.fn 30 [])) [.t 41, .c (.d (.int .i64 1)), .c (.d (.int .i64 8))], none, []⟩,
  ⟨some 43, .move (.t 42), none, []⟩,
  ⟨some 44, .move (.t 0), some (43, true), []⟩,
  ⟨some 45, .indexAddr 3 none (.t 44) (.c (.d (.int .i64 0))), some (43, true), []⟩,
  ⟨some 46, .fieldAddr 0 (.t 45), some (43, true), []⟩,
  ⟨some 47, .load false 1 (.t 46), some (43, true), []⟩,
  ⟨some 48, .bin .eql (.t 47) (.c (.d (.str ⟨#[116, 116]⟩))), some (43, true), []⟩,
  ⟨some 49, .pick (.t 43) (.t 48) (.c (.d (.bool false))), none, []⟩,
  ⟨some 50, .move (.t 49), none, []⟩,
  ⟨some 51, .move (.t 0), some (50, true), []⟩,
  ⟨some 52, .indexAddr 3 none (.t 51) (.c (.d (.int .i64 0))), some (50, true), []⟩,
  ⟨some 53, .fieldAddr 1 (.t 52), some (50, true), []⟩,
  ⟨some 54, .load false 1 (.t 53), some (50, true), []⟩,
  ⟨some 55, .bin .eql (.t 54) (.c (.d (.int .i64 0))), some (50, true), []⟩,
  ⟨some 56, .pick (.t 50) (.t 55) (.c (.d (.bool false))), none, []⟩,
  ⟨some 2, .move (.t 56), none, []⟩]
def v77 : VFn := ⟨1, [.tmp 2], (.seq (.region false 0 [0] r77_0) (.seq (.seq (.region false 0 [0, 5, 6, 7] r77_1) (.block 0 (.loop [0, 5, 6, 7] b77_0))) (.seq (.region false 0 [2] r77_7) .ret)))⟩
/-! loop.example/g00461/spec.SigOk -/
def r82_0 : List VOper := [
  ⟨some 2, .move (.c (.d (.bool false))), none, []⟩]
def r82_1 : List VOper := [
  ⟨some 3, .move (.c (.d (.int .i64 0))), none, []⟩]
def r82_2 : List VOper := [
  ⟨some 4, .move (.t 3), none, []⟩,
  ⟨some 5, .move (.t 0), none, []⟩,
  ⟨some 6, .len false (.t 5), none, []⟩,
  ⟨some 7, .bin .lss (.t 4) (.t 6), none, []⟩]
def r82_4 : List VOper := [
  ⟨some 10, .move (.t 0), none, []⟩,
  ⟨some 11, .move (.t 3), none, []⟩,
  ⟨some 12, .indexAddr 3 none (.t 10) (.t 11), none, []⟩,
  ⟨some 13, .fieldAddr 0 (.t 12), none, []⟩,
  ⟨some 14, .load false 1 (.t 13), none, []⟩,
  ⟨some 15, .call true (.c (.fn 59 [])) [.t 14], none, []⟩,
  ⟨some 16, .not (.t 15), none, []⟩,
  ⟨some 17, .move (.t 16), none, []⟩,
  ⟨some 18, .move (.t 0), some (17, false), []⟩,
  ⟨some 19, .move (.t 0), some (17, false), []⟩,
  ⟨some 20, .move (.t 3), some (17, false), []⟩,
  ⟨some 21, .indexAddr 3 none (.t 19) (.t 20), some (17, false), []⟩,
  ⟨some 22, .fieldAddr 0 (.t 21), some (17, false), []⟩,
  ⟨some 23, .load false 1 (.t 22), some (17, false), []⟩,
  ⟨some 24, .call true (.c (.fn 13 [])) [.t 18, .t 23], some (17, false), []⟩,
  ⟨some 25, .move (.t 3), some (17, false), []⟩,
  ⟨some 26, .bin .neq (.t 24) (.t 25), some (17, false), []⟩,
  ⟨some 27, .pick (.t 17) (.c (.d (.bool true))) (.t 26), none, []⟩,
  ⟨some 28, .move (.t 27), none, []⟩,
  ⟨some 29, .move (.t 0), some (28, false), []⟩,
  ⟨some 30, .move (.t 3), some (28, false), []⟩,
  ⟨some 31, .indexAddr 3 none (.t 29) (.t 30), some (28, false), []⟩,
  ⟨some 32, .fieldAddr 1 (.t 31), some (28, false), []⟩,
  ⟨some 33, .load false 1 (.t 32), some (28, false), []⟩,
  ⟨some 34, .call true (.c (.fn 31 [])) [.t 33, .c (.d (.int .i64 0)), .c (.d (.int .i64 3))], some (28, false), []⟩,
  ⟨some 35, .not (.t 34), some (28, false), []⟩,
  ⟨some 36, .pick (.t 28) (.c (.d (.bool true))) (.t 35), none, []⟩,
  ⟨some 37, .move (.t 36), none, []⟩,
  ⟨some 38, .move (.t 0), some (37, false), []⟩,
  ⟨some 39, .move (.t 3), some (37, false), []⟩,
  ⟨some 40, .indexAddr 3 none (.t 38) (.t 39), some (37, false), []⟩,
  ⟨some 41, .fieldAddr 2 (.t 40), some (37, false), []⟩,
  ⟨some 42, .load false 1 (.t 41), some (37, false), []⟩,
  ⟨some 43, .move (.t 42), some (37, false), []⟩,
  ⟨some 44, .move (.t 0), some (43, true), []⟩,
  ⟨some 45, .move (.t 3), some (43, true), []⟩,
  ⟨some 46, .indexAddr 3 none (.t 44) (.t 45), some (43, true), []⟩,
  ⟨some 47, .fieldAddr 1 (.t 46), some (43, true), []⟩,
  ⟨some 48, .load false 1 (.t 47), some (43, true), []⟩,
  ⟨some 49, .bin .neq (.t 48) (.c (.d (.int .i64 2))), some (43, true), []⟩,
  ⟨some 50, .pick (.t 43) (.t 49) (.c (.d (.bool false))), some (37, false), []⟩,
  ⟨some 51, .pick (.t 37) (.c (.d (.bool true))) (.t 50), none, []⟩]
def r82_5 : List VOper := [
  ⟨some 2, .move (.c (.d (.bool false))), none, []⟩]
def r82_3 : List VOper := [
  ⟨some 8, .move (.t 3), none, []⟩,
  ⟨some 9, .bin .add (.t 8) (.c (.d (.int .i64 1))), none, []⟩,
  ⟨some 3, .move (.t 9), none, []⟩]
def b82_0 : VCode := (.seq (.seq (.region false 0 [0, 3, 7] r82_2) (.cond (.t 7) .skip (.exit 0))) (.seq (.block 1 (.seq (.region false 0 [0, 3, 51] r82_4) (.cond (.t 51) (.seq (.region false 0 [2] r82_5) .ret) .skip))) (.region false 0 [0, 3] r82_3)))
def r82_6 : List VOper := [
  ⟨some 52, .move (.t 0), none, []⟩,
  ⟨some 53, .len false (.t 52), none, []⟩,
  ⟨some 54, .call true (.c (.fn 31 [])) [.t 53, .c (.d (.int .i64 1)), .c (.d (.int .i64 8))], none, []⟩,
  ⟨some 55, .move (.t 54), none, []⟩,
  ⟨some 56, .move (.t 0), some (55, true), []⟩,
  ⟨some 57, .indexAddr 3 none (.t 56) (.c (.d (.int .i64 0))), some (55, true), []⟩,
  ⟨some 58, .load true 3 (.t 57), some (55, true), []⟩,
  ⟨some 59, .build [.str ⟨#[]⟩, .int .i64 0, .bool false] [(0, 1, .c (.d (.str ⟨#[116, 116]⟩)))], some (55, true), []⟩,
  ⟨some 60, .eqAgg false [2, 0, 1] (.t 58) (.t 59), some (55, true), []⟩,
  ⟨some 61, .pick (.t 55) (.t 60) (.c (.d (.bool false))), none, []⟩,
  ⟨some 2, .move (.t 61), none, []⟩]
def v82 : VFn := ⟨1, [.tmp 2], (.seq (.region false 0 [0] r82_0) (.seq (.seq (.region false 0 [0, 3] r82_1) (.block 0 (.loop [0, 3] b82_0))) (.seq (.region false 0 [2] r82_6) .ret)))⟩
/-! loop.example/g00461/spec.SigText -/
def r114_0 : List VOper := [
  ⟨some 2, .move (.c (.d (.str ⟨#[]⟩))), none, []⟩]
def r114_1 : List VOper := [
  ⟨some 3, .move (.c (.d (.str ⟨#[]⟩))), none, []⟩]
def r114_2 : List VOper := [
  ⟨some 4, .move (.c (.d (.int .i64 0))), none, []⟩]
def r114_3 : List VOper := [
  ⟨some 5, .move (.t 4), none, []⟩,
  ⟨some 6, .move (.t 0), none, []⟩,
  ⟨some 7, .len false (.t 6), none, []⟩,
  ⟨some 8, .bin .lss (.t 5) (.t 7), none, []⟩]
def r114_5 : List VOper := [
  ⟨some 11, .move (.t 4), none, []⟩,
  ⟨some 12, .bin .gtr (.t 11) (.c (.d (.int .i64 0))), none, []⟩]
def r114_6 : List VOper := [
  ⟨some 13, .move (.t 3), none, []⟩,
  ⟨some 14, .bin .add (.t 13) (.c (.d (.str ⟨#[32]⟩))), none, []⟩,
  ⟨some 3, .move (.t 14), none, []⟩]
def r114_7 : List VOper := [
  ⟨some 15, .move (.t 3), none, []⟩,
  ⟨some 16, .move (.t 0), none, []⟩,
  ⟨some 17, .move (.t 4), none, []⟩,
  ⟨some 18, .indexAddr 3 none (.t 16) (.t 17), none, [1, 2]⟩,
  ⟨some 19, .fieldAddr 0 (.t 18), none, [3]⟩,
  ⟨some 20, .load false 1 (.t 19), none, [4]⟩,
  ⟨some 21, .bin .add (.t 15) (.t 20), none, [0, 5]⟩,
  ⟨some 22, .bin .add (.t 21) (.c (.d (.str ⟨#[47]⟩))), none, [6]⟩,
  ⟨some 23, .move (.t 0), none, []⟩,
  ⟨some 24, .move (.t 4), none, []⟩,
  ⟨some 25, .indexAddr 3 none (.t 23) (.t 24), none, [8, 9]⟩,
  ⟨some 26, .fieldAddr 1 (.t 25), none, [10]⟩,
  ⟨some 27, .load false 1 (.t 26), none, [11]⟩,
  ⟨some 28, .call true (.c (.fn 39 [])) [.t 27], none, [12]⟩,
  ⟨some 29, .bin .add (.t 22) (.t 28), none, [7, 13]⟩,
  ⟨some 3, .move (.t 29), none, [0, 1, 2, 3, 4, 5, 6, 7, 8, 9, 10, 11, 12, 13, 14]⟩]
def r114_8 : List VOper := [
  ⟨some 30, .move (.t 0), none, []⟩,
  ⟨some 31, .move (.t 4), none, []⟩,
  ⟨some 32, .indexAddr 3 none (.t 30) (.t 31), none, []⟩,
  ⟨some 33, .fieldAddr 2 (.t 32), none, []⟩,
  ⟨some 34, .load false 1 (.t 33), none, []⟩]
def r114_9 : List VOper := [
  ⟨some 35, .move (.t 3), none, []⟩,
  ⟨some 36, .bin .add (.t 35) (.c (.d (.str ⟨#[42]⟩))), none, []⟩,
  ⟨some 3, .move (.t 36), none, []⟩]
def r114_4 : List VOper := [
  ⟨some 9, .move (.t 4), none, []⟩,
  ⟨some 10, .bin .add (.t 9) (.c (.d (.int .i64 1))), none, []⟩,
  ⟨some 4, .move (.t 10), none, []⟩]
def b114_0 : VCode := (.seq (.seq (.region false 0 [0, 3, 4, 8] r114_3) (.cond (.t 8) .skip (.exit 0))) (.seq (.block 1 (.seq (.seq (.region false 0 [0, 3, 4, 12] r114_5) (.cond (.t 12) (.region false 0 [0, 3, 4] r114_6) .skip)) (.seq (.region true 0 [0, 3, 4] r114_7) (.seq (.region false 0 [0, 3, 4, 34] r114_8) (.cond (.t 34) (.region false 0 [0, 3, 4] r114_9) .skip))))) (.region false 0 [0, 3, 4] r114_4)))
def r114_10 : List VOper := [
  ⟨some 37, .move (.t 3), none, []⟩,
  ⟨some 2, .move (.t 37), none, []⟩]
def v114 : VFn := ⟨1, [.tmp 2], (.seq (.region false 0 [0] r114_0) (.seq (.region false 0 [0, 3] r114_1) (.seq (.seq (.region false 0 [0, 3, 4] r114_2) (.block 0 (.loop [0, 3, 4] b114_0))) (.seq (.region false 0 [2] r114_10) .ret))))⟩
/-! loop.example/g00461/impl.SigText -/
def r115_0 : List VOper := [
  ⟨some 2, .move (.c (.d (.str ⟨#[]⟩))), none, []⟩]
def r115_1 : List VOper := [
  ⟨some 7, .buildSlice 1 (.str ⟨#[]⟩) 0 [], none, []⟩,
  ⟨some 3, .move (.t 7), none, []⟩]
def r115_2 : List VOper := [
  ⟨some 8, .move (.t 0), none, []⟩,
  ⟨some 9, .len false (.t 8), none, []⟩,
  ⟨some 10, .move (.c (.d (.int .i64 0))), none, []⟩]
def r115_3 : List VOper := [
  ⟨some 11, .bin .lss (.t 10) (.t 9), none, []⟩]
def r115_4 : List VOper := [
  ⟨some 12, .indexAddr 3 none (.t 8) (.t 10), none, []⟩,
  ⟨some 13, .load true 3 (.t 12), none, []⟩,
  ⟨some 5, .alloc 0 [.str ⟨#[]⟩, .int .i64 0, .bool false], none, []⟩,
  ⟨none, .store false 3 (.t 5) (.t 13), none, []⟩]
def r115_5 : List VOper := [
  ⟨some 14, .fieldAddr 0 (.t 5), none, []⟩,
  ⟨some 15, .load false 1 (.t 14), none, [0]⟩,
  ⟨some 16, .bin .add (.t 15) (.c (.d (.str ⟨#[47]⟩))), none, [1]⟩,
  ⟨some 17, .fieldAddr 1 (.t 5), none, []⟩,
  ⟨some 18, .load false 1 (.t 17), none, [3]⟩,
  ⟨some 19, .call true (.c (.fn 38 [])) [.t 18], none, [4]⟩,
  ⟨some 20, .bin .add (.t 16) (.t 19), none, [2, 5]⟩,
  ⟨some 6, .move (.t 20), none, [0, 1, 2, 3, 4, 5, 6]⟩]
def r115_6 : List VOper := [
  ⟨some 21, .fieldAddr 2 (.t 5), none, []⟩,
  ⟨some 22, .load false 1 (.t 21), none, []⟩]
def r115_7 : List VOper := [
  ⟨some 23, .move (.t 6), none, []⟩,
  ⟨some 24, .bin .add (.t 23) (.c (.d (.str ⟨#[42]⟩))), none, []⟩,
  ⟨some 6, .move (.t 24), none, []⟩]
def r115_8 : List VOper := [
  ⟨some 25, .move (.t 3), none, []⟩,
  ⟨some 26, .move (.t 6), none, []⟩,
  ⟨some 27, .buildSlice 1 (.str ⟨#[]⟩) 1 [(0, .t 26)], none, []⟩,
  ⟨some 28, .append 1 16 (.t 25) (.t 27), none, []⟩,
  ⟨some 3, .move (.t 28), none, []⟩]
def r115_9 : List VOper := [
  ⟨some 29, .bin .add (.t 10) (.c (.d (.int .i64 1))), none, []⟩,
  ⟨some 10, .move (.t 29), none, []⟩]
def b115_0 : VCode := (.seq (.region false 0 [3, 8, 9, 10, 11] r115_3) (.seq (.cond (.t 11) .skip (.exit 0)) (.seq (.block 1 (.seq (.region false 1 [3, 5, 8, 9, 10] r115_4) (.seq (.region true 0 [3, 5, 6, 8, 9, 10] r115_5) (.seq (.seq (.region false 0 [3, 6, 8, 9, 10, 22] r115_6) (.cond (.t 22) (.region false 0 [3, 6, 8, 9, 10] r115_7) .skip)) (.region false 0 [3, 8, 9, 10] r115_8))))) (.region false 0 [3, 8, 9, 10] r115_9))))
def r115_10 : List VOper := [
  ⟨some 30, .move (.t 3), none, []⟩,
  ⟨some 31, .call true (.c (.fn 93 [])) [.t 30, .c (.d (.str ⟨#[32]⟩))], none, []⟩,
  ⟨some 2, .move (.t 31), none, []⟩]
def v115 : VFn := ⟨1, [.tmp 2], (.seq (.region false 0 [0] r115_0) (.seq (.region false 0 [0, 3] r115_1) (.seq (.seq (.region false 0 [3, 8, 9, 10] r115_2) (.block 0 (.loop [3, 8, 9, 10] b115_0))) (.seq (.region false 0 [2] r115_10) .ret))))⟩
/-! loop.example/g00461/laws.big -/
def r133_0 : List VOper := [
  ⟨some 2, .move (.c (.d (.bool false))), none, []⟩]
def r133_1 : List VOper := [
  ⟨some 3, .move (.t 0), none, []⟩,
  ⟨some 4, .len false (.t 3), none, []⟩,
  ⟨some 5, .bin .gtr (.t 4) (.c (.d (.int .i64 1048576))), none, []⟩,
  ⟨some 2, .move (.t 5), none, []⟩]
def v133 : VFn := ⟨1, [.tmp 2], (.seq (.region false 0 [0] r133_0) (.seq (.region false 0 [2] r133_1) .ret))⟩
/-! loop.example/g00461/spec.l2Sig -/
def r155_0 : List VOper := [
  ⟨some 0, .move (.c (.d (.sl .nil []))), none, []⟩]
def r155_1 : List VOper := [
  ⟨some 1, .build [.str ⟨#[]⟩, .int .i64 0, .bool false] [(0, 1, .c (.d (.str ⟨#[116, 116]⟩)))], none, []⟩,
  ⟨some 2, .build [.str ⟨#[]⟩, .int .i64 0, .bool false] [(0, 1, .c (.d (.str ⟨#[97]⟩)))], none, []⟩,
  ⟨some 3, .build [.str ⟨#[]⟩, .int .i64 0, .bool false] [(0, 1, .c (.d (.str ⟨#[98]⟩)))], none, []⟩,
  ⟨some 4, .build [.str ⟨#[]⟩, .int .i64 0, .bool false] [(0, 1, .c (.d (.str ⟨#[103]⟩))), (1, 1, .c (.d (.int .i64 1)))], none, []⟩,
  ⟨some 5, .build [.str ⟨#[]⟩, .int .i64 0, .bool false] [(0, 1, .c (.d (.str ⟨#[104]⟩))), (1, 1, .c (.d (.int .i64 2)))], none, []⟩,
  ⟨some 6, .build [.str ⟨#[]⟩, .int .i64 0, .bool false] [(0, 1, .c (.d (.str ⟨#[102]⟩))), (1, 1, .c (.d (.int .i64 2))), (2, 1, .c (.d (.bool true)))], none, []⟩,
  ⟨some 7, .build [.str ⟨#[]⟩, .int .i64 0, .bool false] [(0, 1, .c (.d (.str ⟨#[107]⟩))), (1, 1, .c (.d (.int .i64 2))), (2, 1, .c (.d (.bool true)))], none, []⟩,
  ⟨some 8, .buildSlice 3 (.agg [.str ⟨#[]⟩, .int .i64 0, .bool false]) 7 [(0, .t 1), (1, .t 2), (2, .t 3), (3, .t 4), (4, .t 5), (5, .t 6), (6, .t 7)], none, []⟩,
  ⟨some 0, .move (.t 8), none, []⟩]
def v155 : VFn := ⟨0, [.tmp 0], (.seq (.region false 0 [] r155_0) (.seq (.region false 0 [0] r155_1) .ret))⟩
/-! loop.example/g00461/spec.l1New -/
def r156_0 : List VOper := [
  ⟨some 2, .move (.c .nilp), none, []⟩]
def r156_1 : List VOper := [
  ⟨some 5, .move (.t 0), none, []⟩,
  ⟨some 6, .len false (.t 5), none, []⟩,
  ⟨some 7, .bin .add (.c (.d (.int .i64 27064))) (.t 6), none, []⟩,
  ⟨some 3, .move (.t 7), none, []⟩]
def r156_2 : List VOper := [
  ⟨some 4, .move (.c (.d (.int .i64 0))), none, []⟩]
def r156_3 : List VOper := [
  ⟨some 8, .move (.t 4), none, []⟩,
  ⟨some 9, .move (.t 0), none, []⟩,
  ⟨some 10, .len false (.t 9), none, []⟩,
  ⟨some 11, .bin .lss (.t 8) (.t 10), none, []⟩,
  ⟨some 12, .move (.t 11), none, []⟩,
  ⟨some 13, .move (.t 4), some (12, true), []⟩,
  ⟨some 14, .bin .lss (.t 13) (.c (.d (.int .i64 4000))), some (12, true), []⟩,
  ⟨some 15, .pick (.t 12) (.t 14) (.c (.d (.bool false))), none, []⟩]
def r156_5 : List VOper := [
  ⟨some 18, .move (.t 3), none, []⟩,
  ⟨some 19, .bin .mul (.t 18) (.c (.d (.int .i64 131))), none, []⟩,
  ⟨some 20, .move (.t 0), none, []⟩,
  ⟨some 21, .move (.t 4), none, []⟩,
  ⟨some 22, .indexAddr 1 none (.t 20) (.t 21), none, []⟩,
  ⟨some 23, .load false 1 (.t 22), none, []⟩,
  ⟨some 24, .conv (.kind .i64) (.t 23), none, []⟩,
  ⟨some 25, .bin .add (.t 19) (.t 24), none, []⟩,
  ⟨some 26, .bin .add (.t 25) (.c (.d (.int .i64 7))), none, []⟩,
  ⟨some 27, .bin .and (.t 26) (.c (.d (.int .i64 1073741823))), none, []⟩,
  ⟨some 3, .move (.t 27), none, []⟩]
def r156_4 : List VOper := [
  ⟨some 16, .move (.t 4), none, []⟩,
  ⟨some 17, .bin .add (.t 16) (.c (.d (.int .i64 1))), none, []⟩,
  ⟨some 4, .move (.t 17), none, []⟩]
def b156_0 : VCode := (.seq (.seq (.region false 0 [0, 3, 4, 15] r156_3) (.cond (.t 15) .skip (.exit 0))) (.seq (.block 1 (.region false 0 [0, 3, 4] r156_5)) (.region false 0 [0, 3, 4] r156_4)))
def r156_6 : List VOper := [
  ⟨some 28, .move (.t 0), none, []⟩,
  ⟨some 29, .move (.t 3), none, []⟩,
  ⟨some 30, .build [.sl .nil [], .int .i64 0, .int .i64 0] [(0, 1, .t 28), (2, 1, .t 29)], none, []⟩,
  ⟨some 31, .box 0 (.t 30), none, []⟩,
  ⟨some 2, .move (.t 31), none, []⟩]
def v156 : VFn := ⟨1, [.tmp 2], (.seq (.region false 0 [0] r156_0) (.seq (.region false 0 [0, 3] r156_1) (.seq (.seq (.region false 0 [0, 3, 4] r156_2) (.block 0 (.loop [0, 3, 4] b156_0))) (.seq (.region false 1 [2] r156_6) .ret))))⟩
/-! loop.example/g00461/spec.l1Below -/
def r159_0 : List VOper := [
  ⟨some 4, .move (.c (.d (.int .i64 0))), none, []⟩]
def r159_1 : List VOper := [
  ⟨some 9, .move (.t 1), none, []⟩,
  ⟨some 10, .bin .leq (.t 9) (.c (.d (.int .i64 0))), none, []⟩]
def r159_2 : List VOper := [
  ⟨some 4, .move (.c (.d (.int .i64 0))), none, []⟩]
def r159_3 : List VOper := [
  ⟨some 11, .move (.t 1), none, []⟩,
  ⟨some 12, .bin .leq (.t 11) (.c (.d (.int .i64 256))), none, []⟩]
def r159_4 : List VOper := [
  ⟨some 13, .move (.t 0), none, []⟩,
  ⟨some 14, .call false (.c (.fn 165 [])) [.t 13], none, []⟩,
  ⟨some 15, .move (.t 1), none, []⟩,
  ⟨some 16, .bin .rem (.t 14) (.t 15), none, []⟩,
  ⟨some 4, .move (.t 16), none, []⟩]
def r159_5 : List VOper := [
  ⟨some 17, .move (.t 0), none, []⟩,
  ⟨some 18, .call false (.c (.fn 165 [])) [.t 17], none, []⟩,
  ⟨some 5, .move (.t 18), none, []⟩]
def r159_6 : List VOper := [
  ⟨some 19, .move (.t 0), none, []⟩,
  ⟨some 20, .call false (.c (.fn 165 [])) [.t 19], none, []⟩,
  ⟨some 6, .move (.t 20), none, []⟩]
def r159_7 : List VOper := [
  ⟨some 21, .move (.t 0), none, []⟩,
  ⟨some 22, .call false (.c (.fn 165 [])) [.t 21], none, []⟩,
  ⟨some 7, .move (.t 22), none, []⟩]
def r159_8 : List VOper := [
  ⟨some 23, .move (.t 0), none, []⟩,
  ⟨some 24, .call false (.c (.fn 165 [])) [.t 23], none, []⟩,
  ⟨some 8, .move (.t 24), none, []⟩]
def r159_9 : List VOper := [
  ⟨some 25, .move (.t 5), none, []⟩,
  ⟨some 26, .bin .mul (.t 25) (.c (.d (.int .i64 16777216))), none, []⟩,
  ⟨some 27, .move (.t 6), none, []⟩,
  ⟨some 28, .bin .mul (.t 27) (.c (.d (.int .i64 65536))), none, []⟩,
  ⟨some 29, .bin .add (.t 26) (.t 28), none, []⟩,
  ⟨some 30, .move (.t 7), none, []⟩,
  ⟨some 31, .bin .mul (.t 30) (.c (.d (.int .i64 256))), none, []⟩,
  ⟨some 32, .bin .add (.t 29) (.t 31), none, []⟩,
  ⟨some 33, .move (.t 8), none, []⟩,
  ⟨some 34, .bin .add (.t 32) (.t 33), none, []⟩,
  ⟨some 35, .move (.t 1), none, []⟩,
  ⟨some 36, .bin .rem (.t 34) (.t 35), none, []⟩,
  ⟨some 4, .move (.t 36), none, []⟩]
def v159 : VFn := ⟨2, [.tmp 4], (.seq (.region false 0 [0, 1] r159_0) (.seq (.seq (.region false 0 [0, 1, 10] r159_1) (.cond (.t 10) (.seq (.region false 0 [4] r159_2) .ret) .skip)) (.seq (.seq (.region false 0 [0, 1, 12] r159_3) (.cond (.t 12) (.seq (.region false 0 [4] r159_4) .ret) .skip)) (.seq (.region false 0 [0, 1, 5] r159_5) (.seq (.region false 0 [0, 1, 5, 6] r159_6) (.seq (.region false 0 [0, 1, 5, 6, 7] r159_7) (.seq (.region false 0 [1, 5, 6, 7, 8] r159_8) (.seq (.region false 0 [4] r159_9) .ret))))))))⟩
/-! loop.example/g00461/spec.l1PickInt -/
def r160_0 : List VOper := [
  ⟨some 4, .move (.c (.d (.int .i64 0))), none, []⟩]
def r160_1 : List VOper := [
  ⟨some 5, .move (.t 1), none, []⟩,
  ⟨some 6, .move (.t 0), none, []⟩,
  ⟨some 7, .move (.t 1), none, []⟩,
  ⟨some 8, .len false (.t 7), none, []⟩,
  ⟨some 9, .call false (.c (.fn 159 [])) [.t 6, .t 8], none, []⟩,
  ⟨some 10, .indexAddr 1 none (.t 5) (.t 9), none, []⟩,
  ⟨some 11, .load false 1 (.t 10), none, []⟩,
  ⟨some 4, .move (.t 11), none, []⟩]
def v160 : VFn := ⟨2, [.tmp 4], (.seq (.region false 0 [0, 1] r160_0) (.seq (.region false 0 [4] r160_1) .ret))⟩
/-! loop.example/g00461/spec.l1Byte -/
def r165_0 : List VOper := [
  ⟨some 2, .move (.c (.d (.int .i64 0))), none, []⟩]
def r165_1 : List VOper := [
  ⟨some 4, .move (.t 0), none, []⟩,
  ⟨some 5, .move (.t 0), none, []⟩,
  ⟨some 6, .nilCheck (.t 5), none, []⟩,
  ⟨some 7, .fieldAddr 2 (.t 6), none, []⟩,
  ⟨some 8, .load false 1 (.t 7), none, []⟩,
  ⟨some 9, .bin .mul (.t 8) (.c (.d (.int .i64 6364136223846793005))), none, []⟩,
  ⟨some 10, .bin .add (.t 9) (.c (.d (.int .i64 1442695040888963407))), none, []⟩,
  ⟨some 11, .nilCheck (.t 4), none, []⟩,
  ⟨some 12, .fieldAddr 2 (.t 11), none, []⟩,
  ⟨none, .store false 1 (.t 12) (.t 10), none, []⟩]
def r165_2 : List VOper := [
  ⟨some 13, .move (.t 0), none, []⟩,
  ⟨some 14, .nilCheck (.t 13), none, [0]⟩,
  ⟨some 15, .fieldAddr 2 (.t 14), none, [1]⟩,
  ⟨some 16, .load false 1 (.t 15), none, [2]⟩,
  ⟨some 17, .bin .shr (.t 16) (.c (.d (.int .u64 33))), none, [3]⟩,
  ⟨some 18, .move (.t 0), none, []⟩,
  ⟨some 19, .nilCheck (.t 18), none, [5]⟩,
  ⟨some 20, .fieldAddr 2 (.t 19), none, [6]⟩,
  ⟨some 21, .load false 1 (.t 20), none, [7]⟩,
  ⟨some 22, .bin .shr (.t 21) (.c (.d (.int .u64 45))), none, [8]⟩,
  ⟨some 23, .bin .xor (.t 17) (.t 22), none, [4, 9]⟩,
  ⟨some 24, .bin .and (.t 23) (.c (.d (.int .i64 255))), none, [10]⟩,
  ⟨some 3, .move (.t 24), none, [0, 1, 2, 3, 4, 5, 6, 7, 8, 9, 10, 11]⟩]
def r165_3 : List VOper := [
  ⟨some 25, .move (.t 0), none, []⟩,
  ⟨some 26, .nilCheck (.t 25), none, [0]⟩,
  ⟨some 27, .fieldAddr 1 (.t 26), none, [1]⟩,
  ⟨some 28, .load false 1 (.t 27), none, [2]⟩,
  ⟨some 29, .move (.t 0), none, []⟩,
  ⟨some 30, .nilCheck (.t 29), none, [4]⟩,
  ⟨some 31, .fieldAddr 0 (.t 30), none, [5]⟩,
  ⟨some 32, .load false 1 (.t 31), none, [6]⟩,
  ⟨some 33, .len false (.t 32), none, [7]⟩,
  ⟨some 34, .bin .lss (.t 28) (.t 33), none, [3, 8]⟩]
def r165_4 : List VOper := [
  ⟨some 35, .move (.t 3), none, []⟩,
  ⟨some 36, .move (.t 0), none, []⟩,
  ⟨some 37, .nilCheck (.t 36), none, [1]⟩,
  ⟨some 38, .fieldAddr 0 (.t 37), none, [2]⟩,
  ⟨some 39, .load false 1 (.t 38), none, [3]⟩,
  ⟨some 40, .move (.t 0), none, []⟩,
  ⟨some 41, .nilCheck (.t 40), none, [5]⟩,
  ⟨some 42, .fieldAddr 1 (.t 41), none, [6]⟩,
  ⟨some 43, .load false 1 (.t 42), none, [7]⟩,
  ⟨some 44, .indexAddr 1 none (.t 39) (.t 43), none, [4, 8]⟩,
  ⟨some 45, .load false 1 (.t 44), none, [9]⟩,
  ⟨some 46, .conv (.kind .i64) (.t 45), none, [10]⟩,
  ⟨some 47, .bin .add (.t 35) (.t 46), none, [0, 11]⟩,
  ⟨some 48, .bin .and (.t 47) (.c (.d (.int .i64 255))), none, [12]⟩,
  ⟨some 3, .move (.t 48), none, [0, 1, 2, 3, 4, 5, 6, 7, 8, 9, 10, 11, 12, 13]⟩]
def r165_5 : List VOper := [
  ⟨some 49, .move (.t 0), none, []⟩,
  ⟨some 50, .move (.t 0), none, []⟩,
  ⟨some 51, .nilCheck (.t 50), none, []⟩,
  ⟨some 52, .fieldAddr 1 (.t 51), none, []⟩,
  ⟨some 53, .load false 1 (.t 52), none, []⟩,
  ⟨some 54, .bin .add (.t 53) (.c (.d (.int .i64 1))), none, []⟩,
  ⟨some 55, .nilCheck (.t 49), none, []⟩,
  ⟨some 56, .fieldAddr 1 (.t 55), none, []⟩,
  ⟨none, .store false 1 (.t 56) (.t 54), none, []⟩]
def r165_6 : List VOper := [
  ⟨some 57, .move (.t 3), none, []⟩,
  ⟨some 2, .move (.t 57), none, []⟩]
def v165 : VFn := ⟨1, [.tmp 2], (.seq (.region false 0 [0] r165_0) (.seq (.region false 0 [0] r165_1) (.seq (.region true 0 [0, 3] r165_2) (.seq (.seq (.region true 0 [0, 3, 34] r165_3) (.cond (.t 34) (.seq (.region true 0 [0, 3] r165_4) (.region false 0 [3] r165_5)) .skip)) (.seq (.region false 0 [2] r165_6) .ret)))))⟩
/-! loop.example/g00461/spec.l2Draw -/
def r195_0 : List VOper := [
  ⟨some 2, .move (.c (.d (.sl .nil []))), none, []⟩]
def r195_1 : List VOper := [
  ⟨some 4, .call true (.c (.fn 155 [])) [], none, []⟩,
  ⟨some 3, .move (.t 4), none, []⟩]
def r195_2 : List VOper := [
  ⟨some 5, .move (.t 0), none, []⟩,
  ⟨some 6, .call false (.c (.fn 159 [])) [.t 5, .c (.d (.int .i64 10))], none, []⟩]
def r195_3 : List VOper := [
  ⟨some 8, .bin .eql (.t 6) (.c (.d (.int .i64 0))), none, []⟩,
  ⟨some 7, .move (.t 8), none, []⟩]
def r195_4 : List VOper := [
  ⟨some 9, .move (.t 3), none, []⟩,
  ⟨some 10, .move (.t 0), none, []⟩,
  ⟨some 11, .buildSlice 1 (.str ⟨#[]⟩) 6 [(0, .c (.d (.str ⟨#[]⟩))), (1, .c (.d (.str ⟨#[65]⟩))), (2, .c (.d (.str ⟨#[116, 116]⟩))), (3, .c (.d (.str ⟨#[97, 98, 99, 100, 101, 102, 103, 104, 105]⟩))), (4, .c (.d (.str ⟨#[49, 97]⟩))), (5, .c (.d (.str ⟨#[97, 49]⟩)))], none, []⟩,
  ⟨some 12, .call false (.c (.fn 196 [])) [.t 10, .t 11], none, []⟩,
  ⟨some 13, .indexAddr 3 none (.t 9) (.c (.d (.int .i64 1))), none, []⟩,
  ⟨some 14, .fieldAddr 0 (.t 13), none, []⟩,
  ⟨none, .store false 1 (.t 14) (.t 12), none, []⟩]
def r195_5 : List VOper := [
  ⟨some 16, .bin .eql (.t 6) (.c (.d (.int .i64 1))), none, []⟩,
  ⟨some 15, .move (.t 16), none, []⟩]
def r195_6 : List VOper := [
  ⟨some 17, .move (.t 3), none, []⟩,
  ⟨some 18, .move (.t 0), none, []⟩,
  ⟨some 19, .buildSlice 1 (.int .i64 0) 3 [(0, .c (.d (.int .i64 (-1)))), (1, .c (.d (.int .i64 3))), (2, .c (.d (.int .i64 4)))], none, []⟩,
  ⟨some 20, .call false (.c (.fn 160 [])) [.t 18, .t 19], none, []⟩,
  ⟨some 21, .indexAddr 3 none (.t 17) (.c (.d (.int .i64 2))), none, []⟩,
  ⟨some 22, .fieldAddr 1 (.t 21), none, []⟩,
  ⟨none, .store false 1 (.t 22) (.t 20), none, []⟩]
def r195_7 : List VOper := [
  ⟨some 24, .bin .eql (.t 6) (.c (.d (.int .i64 2))), none, []⟩,
  ⟨some 23, .move (.t 24), none, []⟩]
def r195_8 : List VOper := [
  ⟨some 25, .move (.t 3), none, []⟩,
  ⟨some 26, .indexAddr 3 none (.t 25) (.c (.d (.int .i64 3))), none, []⟩,
  ⟨some 27, .fieldAddr 2 (.t 26), none, []⟩,
  ⟨none, .store false 1 (.t 27) (.c (.d (.bool true))), none, []⟩]
def r195_9 : List VOper := [
  ⟨some 29, .bin .eql (.t 6) (.c (.d (.int .i64 3))), none, []⟩,
  ⟨some 28, .move (.t 29), none, []⟩]
def r195_10 : List VOper := [
  ⟨some 30, .move (.t 3), none, []⟩,
  ⟨some 31, .slice false 3 (.t 30) (some (.c (.d (.int .i64 1)))) none, none, []⟩,
  ⟨some 2, .move (.t 31), none, []⟩]
def r195_11 : List VOper := [
  ⟨some 33, .bin .eql (.t 6) (.c (.d (.int .i64 4))), none, []⟩,
  ⟨some 32, .move (.t 33), none, []⟩]
def r195_12 : List VOper := [
  ⟨some 34, .move (.t 3), none, []⟩,
  ⟨some 35, .move (.t 0), none, []⟩,
  ⟨some 36, .call false (.c (.fn 159 [])) [.t 35, .c (.d (.int .i64 4))], none, []⟩,
  ⟨some 37, .slice false 3 (.t 34) none (some (.t 36)), none, []⟩,
  ⟨some 2, .move (.t 37), none, []⟩]
def r195_13 : List VOper := [
  ⟨some 39, .bin .eql (.t 6) (.c (.d (.int .i64 5))), none, []⟩,
  ⟨some 38, .move (.t 39), none, []⟩]
def r195_14 : List VOper := [
  ⟨some 40, .move (.t 3), none, []⟩,
  ⟨some 41, .build [.str ⟨#[]⟩, .int .i64 0, .bool false] [(0, 1, .c (.d (.str ⟨#[120, 49]⟩)))], none, []⟩,
  ⟨some 42, .move (.t 0), none, []⟩,
  ⟨some 43, .buildSlice 1 (.str ⟨#[]⟩) 2 [(0, .c (.d (.str ⟨#[120, 50]⟩))), (1, .c (.d (.str ⟨#[120, 49]⟩)))], none, []⟩,
  ⟨some 44, .call false (.c (.fn 196 [])) [.t 42, .t 43], none, []⟩,
  ⟨some 45, .build [.str ⟨#[]⟩, .int .i64 0, .bool false] [(0, 1, .t 44)], none, []⟩,
  ⟨some 46, .buildSlice 3 (.agg [.str ⟨#[]⟩, .int .i64 0, .bool false]) 2 [(0, .t 41), (1, .t 45)], none, []⟩,
  ⟨some 47, .append 3 32 (.t 40) (.t 46), none, []⟩,
  ⟨some 2, .move (.t 47), none, []⟩]
def r195_15 : List VOper := [
  ⟨some 48, .move (.t 3), none, []⟩,
  ⟨some 2, .move (.t 48), none, []⟩]
def v195 : VFn := ⟨1, [.tmp 2], (.seq (.region false 0 [0] r195_0) (.seq (.region false 0 [0, 3] r195_1) (.seq (.seq (.region false 0 [0, 3, 6] r195_2) (.block 0 (.seq (.region false 0 [0, 3, 6, 7] r195_3) (.cond (.t 7) (.ghost (.focR 3 [0]) (.region false 0 [3] r195_4)) (.seq (.region false 0 [0, 3, 6, 15] r195_5) (.cond (.t 15) (.ghost (.focR 3 [0]) (.region false 0 [3] r195_6)) (.seq (.region false 0 [0, 3, 6, 23] r195_7) (.cond (.t 23) (.ghost (.focR 3 [0]) (.region false 0 [3] r195_8)) (.seq (.region false 0 [0, 3, 6, 28] r195_9) (.cond (.t 28) (.seq (.region false 0 [2] r195_10) .ret) (.seq (.region false 0 [0, 3, 6, 32] r195_11) (.cond (.t 32) (.seq (.region false 0 [2] r195_12) .ret) (.seq (.region false 0 [0, 3, 38] r195_13) (.cond (.t 38) (.seq (.region false 0 [2] r195_14) .ret) .skip)))))))))))))) (.seq (.ghost (.frzR 3 1 []) (.region false 0 [2] r195_15)) .ret))))⟩
/-! loop.example/g00461/spec.l1Pick -/
def r196_0 : List VOper := [
  ⟨some 4, .move (.c (.d (.str ⟨#[]⟩))), none, []⟩]
def r196_1 : List VOper := [
  ⟨some 5, .move (.t 1), none, []⟩,
  ⟨some 6, .move (.t 0), none, []⟩,
  ⟨some 7, .move (.t 1), none, []⟩,
  ⟨some 8, .len false (.t 7), none, []⟩,
  ⟨some 9, .call false (.c (.fn 159 [])) [.t 6, .t 8], none, []⟩,
  ⟨some 10, .indexAddr 1 none (.t 5) (.t 9), none, []⟩,
  ⟨some 11, .load false 1 (.t 10), none, []⟩,
  ⟨some 4, .move (.t 11), none, []⟩]
def v196 : VFn := ⟨2, [.tmp 4], (.seq (.region false 0 [0, 1] r196_0) (.seq (.region false 0 [4] r196_1) .ret))⟩
/-! loop.example/g00461/laws.FnSigs -/
def r232_0 : List VOper := [
  ⟨some 2, .move (.c (.d (.bool false))), none, []⟩]
def r232_1 : List VOper := [
  ⟨some 13, .move (.t 0), none, []⟩,
  ⟨some 14, .call true (.c (.fn 133 [])) [.t 13], none, []⟩]
def r232_2 : List VOper := [
  ⟨some 2, .move (.c (.d (.bool true))), none, []⟩]
def r232_3 : List VOper := [
  ⟨some 15, .move (.t 0), none, []⟩,
  ⟨some 16, .call true (.c (.fn 233 [])) [.t 15], none, []⟩,
  ⟨some 3, .move (.t 16), none, []⟩]
def r232_4 : List VOper := [
  ⟨some 18, .move (.t 0), none, []⟩,
  ⟨some 19, .call true (.c (.fn 234 [])) [.t 18], none, []⟩,
  ⟨some 17, .move (.t 19), none, []⟩,
  ⟨some 20, .extract (.t 17) 0, none, []⟩,
  ⟨some 21, .extract (.t 17) 1, none, []⟩,
  ⟨some 4, .move (.t 20), none, []⟩,
  ⟨some 5, .move (.t 21), none, []⟩]
def r232_5 : List VOper := [
  ⟨some 23, .move (.t 0), none, []⟩,
  ⟨some 24, .call true (.c (.fn 235 [])) [.t 23], none, []⟩,
  ⟨some 22, .move (.t 24), none, []⟩,
  ⟨some 25, .extract (.t 22) 0, none, []⟩,
  ⟨some 26, .extract (.t 22) 1, none, []⟩,
  ⟨some 6, .move (.t 25), none, []⟩,
  ⟨some 7, .move (.t 26), none, []⟩]
def r232_6 : List VOper := [
  ⟨some 28, .move (.t 0), none, []⟩,
  ⟨some 29, .call true (.c (.fn 236 [])) [.t 28], none, []⟩,
  ⟨some 27, .move (.t 29), none, []⟩,
  ⟨some 30, .extract (.t 27) 0, none, []⟩,
  ⟨some 31, .extract (.t 27) 1, none, []⟩,
  ⟨some 8, .move (.t 30), none, []⟩,
  ⟨some 9, .move (.t 31), none, []⟩]
def r232_7 : List VOper := [
  ⟨some 32, .move (.t 0), none, []⟩,
  ⟨some 33, .call true (.c (.fn 237 [])) [.t 32], none, []⟩,
  ⟨some 34, .move (.t 0), none, []⟩,
  ⟨some 35, .call true (.c (.fn 238 [])) [.t 34], none, []⟩,
  ⟨some 10, .move (.t 33), none, []⟩,
  ⟨some 11, .move (.t 35), none, []⟩]
def r232_8 : List VOper := [
  ⟨some 36, .move (.t 3), none, []⟩,
  ⟨some 37, .call true (.c (.fn 77 [])) [.t 36], none, []⟩,
  ⟨some 38, .move (.t 3), none, []⟩,
  ⟨some 39, .call true (.c (.fn 82 [])) [.t 38], none, []⟩,
  ⟨some 40, .eqB true (.t 37) (.t 39), none, []⟩,
  ⟨some 41, .move (.t 40), none, []⟩,
  ⟨some 42, .move (.t 4), some (41, false), []⟩,
  ⟨some 43, .move (.t 5), some (41, false), []⟩,
  ⟨some 44, .call true (.c (.fn 14 [])) [.t 42, .t 43], some (41, false), []⟩,
  ⟨some 45, .move (.t 4), some (41, false), []⟩,
  ⟨some 46, .move (.t 5), some (41, false), []⟩,
  ⟨some 47, .call true (.c (.fn 13 [])) [.t 45, .t 46], some (41, false), []⟩,
  ⟨some 48, .bin .neq (.t 44) (.t 47), some (41, false), []⟩,
  ⟨some 49, .pick (.t 41) (.c (.d (.bool true))) (.t 48), none, []⟩,
  ⟨some 50, .move (.t 49), none, []⟩,
  ⟨some 51, .move (.t 6), some (50, false), []⟩,
  ⟨some 52, .move (.t 7), some (50, false), []⟩,
  ⟨some 53, .call true (.c (.fn 34 [])) [.t 51, .t 52], some (50, false), []⟩,
  ⟨some 54, .move (.t 6), some (50, false), []⟩,
  ⟨some 55, .move (.t 7), some (50, false), []⟩,
  ⟨some 56, .call true (.c (.fn 33 [])) [.t 54, .t 55], some (50, false), []⟩,
  ⟨some 57, .eqB true (.t 53) (.t 56), some (50, false), []⟩,
  ⟨some 58, .pick (.t 50) (.c (.d (.bool true))) (.t 57), none, []⟩,
  ⟨some 59, .move (.t 58), none, []⟩,
  ⟨some 60, .move (.t 8), some (59, false), []⟩,
  ⟨some 61, .move (.t 9), some (59, false), []⟩,
  ⟨some 62, .call true (.c (.fn 28 [])) [.t 60, .t 61], some (59, false), []⟩,
  ⟨some 63, .move (.t 8), some (59, false), []⟩,
  ⟨some 64, .move (.t 9), some (59, false), []⟩,
  ⟨some 65, .call true (.c (.fn 27 [])) [.t 63, .t 64], some (59, false), []⟩,
  ⟨some 66, .bin .neq (.t 62) (.t 65), some (59, false), []⟩,
  ⟨some 67, .pick (.t 59) (.c (.d (.bool true))) (.t 66), none, []⟩,
  ⟨some 68, .move (.t 67), none, []⟩,
  ⟨some 69, .move (.t 10), some (68, false), []⟩,
  ⟨some 70, .call true (.c (.fn 115 [])) [.t 69], some (68, false), []⟩,
  ⟨some 71, .move (.t 10), some (68, false), []⟩,
  ⟨some 72, .call true (.c (.fn 114 [])) [.t 71], some (68, false), []⟩,
  ⟨some 73, .bin .neq (.t 70) (.t 72), some (68, false), []⟩,
  ⟨some 74, .pick (.t 68) (.c (.d (.bool true))) (.t 73), none, []⟩,
  ⟨some 75, .move (.t 74), none, []⟩,
  ⟨some 76, .move (.t 11), some (75, false), []⟩,
  ⟨some 77, .call true (.c (.fn 60 [])) [.t 76], some (75, false), []⟩,
  ⟨some 78, .move (.t 11), some (75, false), []⟩,
  ⟨some 79, .call true (.c (.fn 59 [])) [.t 78], some (75, false), []⟩,
  ⟨some 80, .eqB true (.t 77) (.t 79), some (75, false), []⟩,
  ⟨some 81, .pick (.t 75) (.c (.d (.bool true))) (.t 80), none, []⟩]
def r232_9 : List VOper := [
  ⟨some 2, .move (.c (.d (.bool false))), none, []⟩]
def r232_10 : List VOper := [
  ⟨some 12, .move (.c (.d (.int .i64 0))), none, []⟩]
def r232_11 : List VOper := [
  ⟨some 82, .move (.t 12), none, []⟩,
  ⟨some 83, .move (.t 3), none, []⟩,
  ⟨some 84, .len false (.t 83), none, []⟩,
  ⟨some 85, .bin .lss (.t 82) (.t 84), none, []⟩,
  ⟨some 86, .move (.t 85), none, []⟩,
  ⟨some 87, .move (.t 3), some (86, true), []⟩,
  ⟨some 88, .call true (.c (.fn 77 [])) [.t 87], some (86, true), []⟩,
  ⟨some 89, .pick (.t 86) (.t 88) (.c (.d (.bool false))), none, []⟩]
def r232_13 : List VOper := [
  ⟨some 92, .move (.t 3), none, []⟩,
  ⟨some 93, .move (.t 3), none, []⟩,
  ⟨some 94, .move (.t 12), none, []⟩,
  ⟨some 95, .indexAddr 3 none (.t 93) (.t 94), none, [1, 2]⟩,
  ⟨some 96, .fieldAddr 0 (.t 95), none, [3]⟩,
  ⟨some 97, .load false 1 (.t 96), none, [4]⟩,
  ⟨some 98, .call true (.c (.fn 14 [])) [.t 92, .t 97], none, [0, 5]⟩,
  ⟨some 99, .move (.t 12), none, []⟩,
  ⟨some 100, .bin .neq (.t 98) (.t 99), none, [6, 7]⟩,
  ⟨some 101, .move (.t 100), none, [6, 8]⟩,
  ⟨some 102, .move (.t 3), some (101, false), [9]⟩,
  ⟨some 103, .move (.t 12), some (101, false), [9]⟩,
  ⟨some 104, .call true (.c (.fn 28 [])) [.t 102, .t 103], some (101, false), [9, 10, 11]⟩,
  ⟨some 105, .move (.t 3), some (101, false), [9]⟩,
  ⟨some 106, .move (.t 12), some (101, false), [9]⟩,
  ⟨some 107, .indexAddr 3 none (.t 105) (.t 106), some (101, false), [9, 13, 14]⟩,
  ⟨some 108, .fieldAddr 1 (.t 107), some (101, false), [9, 15]⟩,
  ⟨some 109, .load false 1 (.t 108), some (101, false), [9, 16]⟩,
  ⟨some 110, .bin .neq (.t 104) (.t 109), some (101, false), [9, 12, 17]⟩,
  ⟨some 111, .pick (.t 101) (.c (.d (.bool true))) (.t 110), none, [9, 18]⟩]
def r232_14 : List VOper := [
  ⟨some 2, .move (.c (.d (.bool false))), none, []⟩]
def r232_12 : List VOper := [
  ⟨some 90, .move (.t 12), none, []⟩,
  ⟨some 91, .bin .add (.t 90) (.c (.d (.int .i64 1))), none, []⟩,
  ⟨some 12, .move (.t 91), none, []⟩]
def b232_0 : VCode := (.seq (.seq (.region false 0 [3, 12, 89] r232_11) (.cond (.t 89) .skip (.exit 0))) (.seq (.block 1 (.seq (.region true 0 [3, 12, 111] r232_13) (.cond (.t 111) (.seq (.region false 0 [2] r232_14) .ret) .skip))) (.region false 0 [3, 12] r232_12)))
def r232_15 : List VOper := [
  ⟨some 2, .move (.c (.d (.bool true))), none, []⟩]
def v232 : VFn := ⟨1, [.tmp 2], (.seq (.region false 0 [0] r232_0) (.seq (.seq (.region false 0 [0, 14] r232_1) (.cond (.t 14) (.seq (.region false 0 [2] r232_2) .ret) .skip)) (.seq (.region false 0 [0, 3] r232_3) (.seq (.region false 0 [0, 3, 4, 5] r232_4) (.seq (.region false 0 [0, 3, 4, 5, 6, 7] r232_5) (.seq (.region false 0 [0, 3, 4, 5, 6, 7, 8, 9] r232_6) (.seq (.region false 0 [3, 4, 5, 6, 7, 8, 9, 10, 11] r232_7) (.seq (.seq (.region false 0 [3, 81] r232_8) (.cond (.t 81) (.seq (.region false 0 [2] r232_9) .ret) .skip)) (.seq (.seq (.region false 0 [3, 12] r232_10) (.block 0 (.loop [3, 12] b232_0))) (.seq (.region false 0 [2] r232_15) .ret))))))))))⟩
/-! loop.example/g00461/spec.DrawSigOk -/
def r233_0 : List VOper := [
  ⟨some 2, .move (.c (.d (.sl .nil []))), none, []⟩]
def r233_1 : List VOper := [
  ⟨some 3, .move (.t 0), none, []⟩,
  ⟨some 4, .call false (.c (.fn 156 [])) [.t 3], none, []⟩,
  ⟨some 5, .callS 4 (.c (.fn 195 [])) [.t 4], none, []⟩,
  ⟨some 2, .move (.t 5), none, []⟩]
def v233 : VFn := ⟨1, [.tmp 2], (.seq (.region false 0 [0] r233_0) (.seq (.region false 0 [2] r233_1) .ret))⟩
/-! loop.example/g00461/spec.DrawSymOf -/
def r234_0 : List VOper := [
  ⟨some 2, .move (.c (.d (.sl .nil []))), none, []⟩,
  ⟨some 3, .move (.c (.d (.str ⟨#[]⟩))), none, []⟩]
def r234_1 : List VOper := [
  ⟨some 6, .move (.t 0), none, []⟩,
  ⟨some 7, .call false (.c (.fn 156 [])) [.t 6], none, []⟩,
  ⟨some 4, .move (.t 7), none, []⟩]
def r234_2 : List VOper := [
  ⟨some 8, .move (.t 4), none, []⟩,
  ⟨some 9, .callS 8 (.c (.fn 195 [])) [.t 8], none, []⟩,
  ⟨some 5, .move (.t 9), none, []⟩]
def r234_3 : List VOper := [
  ⟨some 10, .move (.t 5), none, []⟩,
  ⟨some 11, .move (.t 4), none, []⟩,
  ⟨some 12, .buildSlice 1 (.str ⟨#[]⟩) 5 [(0, .c (.d (.str ⟨#[102]⟩))), (1, .c (.d (.str ⟨#[116, 116]⟩))), (2, .c (.d (.str ⟨#[97]⟩))), (3, .c (.d (.str ⟨#[122, 122]⟩))), (4, .c (.d (.str ⟨#[]⟩)))], none, []⟩,
  ⟨some 13, .call false (.c (.fn 196 [])) [.t 11, .t 12], none, []⟩,
  ⟨some 2, .move (.t 10), none, []⟩,
  ⟨some 3, .move (.t 13), none, []⟩]
def v234 : VFn := ⟨1, [.tmp 2, .tmp 3], (.seq (.region false 0 [0] r234_0) (.seq (.region false 0 [4] r234_1) (.seq (.region false 0 [4, 5] r234_2) (.seq (.region false 0 [2, 3] r234_3) .ret))))⟩
/-! loop.example/g00461/spec.DrawBlind -/
def r235_0 : List VOper := [
  ⟨some 2, .move (.c (.d (.sl .nil []))), none, []⟩,
  ⟨some 3, .move (.c (.d (.int .i64 0))), none, []⟩]
def r235_1 : List VOper := [
  ⟨some 6, .move (.t 0), none, []⟩,
  ⟨some 7, .call false (.c (.fn 156 [])) [.t 6], none, []⟩,
  ⟨some 4, .move (.t 7), none, []⟩]
def r235_2 : List VOper := [
  ⟨some 8, .move (.t 4), none, []⟩,
  ⟨some 9, .callS 8 (.c (.fn 195 [])) [.t 8], none, []⟩,
  ⟨some 5, .move (.t 9), none, []⟩]
def r235_3 : List VOper := [
  ⟨some 10, .move (.t 5), none, []⟩,
  ⟨some 11, .move (.t 4), none, []⟩,
  ⟨some 12, .call false (.c (.fn 159 [])) [.t 11, .c (.d (.int .i64 11))], none, []⟩,
  ⟨some 13, .bin .sub (.t 12) (.c (.d (.int .i64 2))), none, []⟩,
  ⟨some 2, .move (.t 10), none, []⟩,
  ⟨some 3, .move (.t 13), none, []⟩]
def v235 : VFn := ⟨1, [.tmp 2, .tmp 3], (.seq (.region false 0 [0] r235_0) (.seq (.region false 0 [4] r235_1) (.seq (.region false 0 [4, 5] r235_2) (.seq (.region false 0 [2, 3] r235_3) .ret))))⟩
/-! loop.example/g00461/spec.DrawArityOf -/
def r236_0 : List VOper := [
  ⟨some 2, .move (.c (.d (.sl .nil []))), none, []⟩,
  ⟨some 3, .move (.c (.d (.int .i64 0))), none, []⟩]
def r236_1 : List VOper := [
  ⟨some 7, .move (.t 0), none, []⟩,
  ⟨some 8, .call true (.c (.fn 235 [])) [.t 7], none, []⟩,
  ⟨some 6, .move (.t 8), none, []⟩,
  ⟨some 9, .extract (.t 6) 0, none, []⟩,
  ⟨some 10, .extract (.t 6) 1, none, []⟩,
  ⟨some 4, .move (.t 9), none, []⟩,
  ⟨some 5, .move (.t 10), none, []⟩]
def r236_2 : List VOper := [
  ⟨some 11, .move (.t 4), none, []⟩,
  ⟨some 12, .move (.t 5), none, []⟩,
  ⟨some 2, .move (.t 11), none, []⟩,
  ⟨some 3, .move (.t 12), none, []⟩]
def v236 : VFn := ⟨1, [.tmp 2, .tmp 3], (.seq (.region false 0 [0] r236_0) (.seq (.region false 0 [4, 5] r236_1) (.seq (.region false 0 [2, 3] r236_2) .ret)))⟩
/-! loop.example/g00461/spec.DrawSigText -/
def r237_0 : List VOper := [
  ⟨some 2, .move (.c (.d (.sl .nil []))), none, []⟩]
def r237_1 : List VOper := [
  ⟨some 3, .move (.t 0), none, []⟩,
  ⟨some 4, .call false (.c (.fn 156 [])) [.t 3], none, []⟩,
  ⟨some 5, .callS 4 (.c (.fn 195 [])) [.t 4], none, []⟩,
  ⟨some 2, .move (.t 5), none, []⟩]
def v237 : VFn := ⟨1, [.tmp 2], (.seq (.region false 0 [0] r237_0) (.seq (.region false 0 [2] r237_1) .ret))⟩
/-! loop.example/g00461/spec.DrawNameOk -/
def r238_0 : List VOper := [
  ⟨some 2, .move (.c (.d (.str ⟨#[]⟩))), none, []⟩]
def r238_1 : List VOper := [
  ⟨some 3, .move (.t 0), none, []⟩,
  ⟨some 4, .call false (.c (.fn 156 [])) [.t 3], none, []⟩,
  ⟨some 5, .buildSlice 1 (.str ⟨#[]⟩) 8 [(0, .c (.d (.str ⟨#[]⟩))), (1, .c (.d (.str ⟨#[97]⟩))), (2, .c (.d (.str ⟨#[97, 49]⟩))), (3, .c (.d (.str ⟨#[49, 97]⟩))), (4, .c (.d (.str ⟨#[65]⟩))), (5, .c (.d (.str ⟨#[97, 98, 99, 100, 101, 102, 103, 104]⟩))), (6, .c (.d (.str ⟨#[97, 98, 99, 100, 101, 102, 103, 104, 105]⟩))), (7, .c (.d (.str ⟨#[97, 95, 98]⟩)))], none, []⟩,
  ⟨some 6, .call false (.c (.fn 196 [])) [.t 4, .t 5], none, []⟩,
  ⟨some 2, .move (.t 6), none, []⟩]
def v238 : VFn := ⟨1, [.tmp 2], (.seq (.region false 0 [0] r238_0) (.seq (.region false 0 [2] r238_1) .ret))⟩
def look : List (Nat × VFn) → Nat → Option VFn
  | [], _ => none
  | (k, v) :: r, n => if n = k then some v else look r n
def codes : List (Nat × VFn) := [(13, v13), (14, v14), (18, v18), (19, v19), (27, v27), (28, v28), (29, v29), (30, v30), (31, v31), (33, v33), (34, v34), (38, v38), (39, v39), (59, v59), (60, v60), (61, v61), (62, v62), (77, v77), (82, v82), (114, v114), (115, v115), (133, v133), (155, v155), (156, v156), (159, v159), (160, v160), (165, v165), (195, v195), (196, v196), (232, v232), (233, v233), (234, v234), (235, v235), (236, v236), (237, v237), (238, v238)]
def specs : List (Nat × SFn) := []
def bases : List (Nat × Nat) := [(195, 1)]
def lookB : List (Nat × Nat) → Nat → Option Nat
  | [], _ => none
  | (k, v) :: r, n => if n = k then some v else lookB r n
def nats : List (Nat × (List DV → Option DV)) := [(93, joinD)]
def E : Env := ⟨look codes, fun k => (lookN nats k).map natV, lookS specs, lookB bases⟩
theorem code_13 : E.code 13 = some v13 := by kernel_rfl
theorem code_14 : E.code 14 = some v14 := by kernel_rfl
theorem code_18 : E.code 18 = some v18 := by kernel_rfl
theorem code_19 : E.code 19 = some v19 := by kernel_rfl
theorem code_27 : E.code 27 = some v27 := by kernel_rfl
theorem code_28 : E.code 28 = some v28 := by kernel_rfl
theorem code_29 : E.code 29 = some v29 := by kernel_rfl
theorem code_30 : E.code 30 = some v30 := by kernel_rfl
theorem code_31 : E.code 31 = some v31 := by kernel_rfl
theorem code_33 : E.code 33 = some v33 := by kernel_rfl
theorem code_34 : E.code 34 = some v34 := by kernel_rfl
theorem code_38 : E.code 38 = some v38 := by kernel_rfl
theorem code_39 : E.code 39 = some v39 := by kernel_rfl
theorem code_59 : E.code 59 = some v59 := by kernel_rfl
theorem code_60 : E.code 60 = some v60 := by kernel_rfl
theorem code_61 : E.code 61 = some v61 := by kernel_rfl
theorem code_62 : E.code 62 = some v62 := by kernel_rfl
theorem code_77 : E.code 77 = some v77 := by kernel_rfl
theorem code_82 : E.code 82 = some v82 := by kernel_rfl
theorem code_114 : E.code 114 = some v114 := by kernel_rfl
theorem code_115 : E.code 115 = some v115 := by kernel_rfl
theorem code_133 : E.code 133 = some v133 := by kernel_rfl
theorem code_155 : E.code 155 = some v155 := by kernel_rfl
theorem code_156 : E.code 156 = some v156 := by kernel_rfl
theorem code_159 : E.code 159 = some v159 := by kernel_rfl
theorem code_160 : E.code 160 = some v160 := by kernel_rfl
theorem code_165 : E.code 165 = some v165 := by kernel_rfl
theorem code_195 : E.code 195 = some v195 := by kernel_rfl
theorem code_196 : E.code 196 = some v196 := by kernel_rfl
theorem code_232 : E.code 232 = some v232 := by kernel_rfl
theorem code_233 : E.code 233 = some v233 := by kernel_rfl
theorem code_234 : E.code 234 = some v234 := by kernel_rfl
theorem code_235 : E.code 235 = some v235 := by kernel_rfl
theorem code_236 : E.code 236 = some v236 := by kernel_rfl
theorem code_237 : E.code 237 = some v237 := by kernel_rfl
theorem code_238 : E.code 238 = some v238 := by kernel_rfl
end Go.Proofs.Ytidlpcgcolcfgaa.VS
