/- The code of the functions that the laws reach, for the evaluator. -/
import Derived.Test.YtficfeekkljoeaaNat0
import Derived.KernelRfl
namespace Go.Proofs.Ytficfeekkljoeaa.VS
set_option linter.unusedVariables false
/-! loop.example/g00461/impl.from -/
def r30_0 : List VOper := [
  ⟨some 6, .move (.c (.d (.bool false))), none, []⟩]
def r30_1 : List VOper := [
  ⟨some 7, .move (.t 0), none, []⟩,
  ⟨some 8, .move (.t 1), none, []⟩,
  ⟨some 9, .bin .geq (.t 7) (.t 8), none, []⟩,
  ⟨some 10, .move (.t 9), none, []⟩,
  ⟨some 11, .move (.t 0), some (10, true), []⟩,
  ⟨some 12, .move (.t 2), some (10, true), []⟩,
  ⟨some 13, .bin .leq (.t 11) (.t 12), some (10, true), []⟩,
  ⟨some 14, .pick (.t 10) (.t 13) (.c (.d (.bool false))), none, []⟩,
  ⟨some 6, .move (.t 14), none, []⟩]
def v30 : VFn := ⟨3, [.tmp 6], (.seq (.region false 0 [0, 1, 2] r30_0) (.seq (.region false 0 [6] r30_1) .ret))⟩
/-! loop.example/g00461/spec.l1In -/
def r31_0 : List VOper := [
  ⟨some 6, .move (.c (.d (.bool false))), none, []⟩]
def r31_1 : List VOper := [
  ⟨some 7, .move (.t 0), none, []⟩,
  ⟨some 8, .move (.t 1), none, []⟩,
  ⟨some 9, .bin .geq (.t 7) (.t 8), none, []⟩,
  ⟨some 10, .move (.t 9), none, []⟩,
  ⟨some 11, .move (.t 0), some (10, true), []⟩,
  ⟨some 12, .move (.t 2), some (10, true), []⟩,
  ⟨some 13, .bin .leq (.t 11) (.t 12), some (10, true), []⟩,
  ⟨some 14, .pick (.t 10) (.t 13) (.c (.d (.bool false))), none, []⟩,
  ⟨some 6, .move (.t 14), none, []⟩]
def v31 : VFn := ⟨3, [.tmp 6], (.seq (.region false 0 [0, 1, 2] r31_0) (.seq (.region false 0 [6] r31_1) .ret))⟩
/-! loop.example/g00461/laws.toIntS -/
def r41_0 : List VOper := [
  ⟨some 2, .move (.c (.d (.sl .nil []))), none, []⟩]
def r41_1 : List VOper := [
  ⟨some 5, .move (.t 0), none, []⟩,
  ⟨some 6, .len false (.t 5), none, []⟩,
  ⟨some 7, .makeSlice 0 1 8 (.int .i64 0) (.t 6), none, []⟩,
  ⟨some 3, .move (.t 7), none, []⟩]
def r41_2 : List VOper := [
  ⟨some 4, .move (.c (.d (.int .i64 0))), none, []⟩]
def r41_3 : List VOper := [
  ⟨some 8, .move (.t 4), none, []⟩,
  ⟨some 9, .move (.t 0), none, []⟩,
  ⟨some 10, .len false (.t 9), none, []⟩,
  ⟨some 11, .bin .lss (.t 8) (.t 10), none, []⟩]
def r41_5 : List VOper := [
  ⟨some 14, .move (.t 3), none, []⟩,
  ⟨some 15, .move (.t 4), none, []⟩,
  ⟨some 16, .move (.t 0), none, []⟩,
  ⟨some 17, .move (.t 4), none, []⟩,
  ⟨some 18, .indexAddr 1 none (.t 16) (.t 17), none, []⟩,
  ⟨some 19, .load false 1 (.t 18), none, []⟩,
  ⟨some 20, .indexAddr 1 none (.t 14) (.t 15), none, []⟩,
  ⟨none, .store false 1 (.t 20) (.t 19), none, []⟩]
def r41_4 : List VOper := [
  ⟨some 12, .move (.t 4), none, []⟩,
  ⟨some 13, .bin .add (.t 12) (.c (.d (.int .i64 1))), none, []⟩,
  ⟨some 4, .move (.t 13), none, []⟩]
def b41_0 : VCode := (.seq (.seq (.region false 0 [0, 3, 4, 11] r41_3) (.cond (.t 11) .skip (.exit 0))) (.seq (.block 1 (.region false 0 [0, 3, 4] r41_5)) (.region false 0 [0, 3, 4] r41_4)))
def r41_6 : List VOper := [
  ⟨some 21, .move (.t 3), none, []⟩,
  ⟨some 2, .move (.t 21), none, []⟩]
def v41 : VFn := ⟨1, [.tmp 2], (.seq (.region false 0 [0] r41_0) (.seq (.region false 1 [0, 3] r41_1) (.seq (.seq (.region false 0 [0, 3, 4] r41_2) (.block 0 (.loop [0, 3, 4] b41_0))) (.seq (.region false 0 [2] r41_6) .ret))))⟩
/-! loop.example/g00461/impl.Solves -/
def r43_0 : List VOper := [
  ⟨some 6, .move (.c (.d (.bool false))), none, []⟩]
def r43_1 : List VOper := [
  ⟨some 12, .move (.t 2), none, []⟩,
  ⟨some 13, .len false (.t 12), none, []⟩,
  ⟨some 14, .move (.t 0), none, []⟩,
  ⟨some 15, .len false (.t 14), none, []⟩,
  ⟨some 16, .move (.t 1), none, []⟩,
  ⟨some 17, .len false (.t 16), none, []⟩,
  ⟨some 18, .bin .add (.t 15) (.t 17), none, []⟩,
  ⟨some 19, .bin .neq (.t 13) (.t 18), none, []⟩,
  ⟨some 20, .move (.t 19), none, []⟩,
  ⟨some 21, .move (.t 2), some (20, false), []⟩,
  ⟨some 22, .call false (.c (.fn 45 [])) [.t 21, .c (.fn 46 [])], some (20, false), []⟩,
  ⟨some 23, .pick (.t 20) (.c (.d (.bool true))) (.t 22), none, []⟩]
def r43_2 : List VOper := [
  ⟨some 6, .move (.c (.d (.bool false))), none, []⟩]
def r43_3 : List VOper := [
  ⟨some 7, .move (.c (.d (.int .i64 0))), none, []⟩]
def r43_4 : List VOper := [
  ⟨some 24, .move (.t 0), none, []⟩,
  ⟨some 25, .len false (.t 24), none, []⟩,
  ⟨some 26, .move (.c (.d (.int .i64 0))), none, []⟩]
def r43_5 : List VOper := [
  ⟨some 27, .bin .lss (.t 26) (.t 25), none, []⟩]
def r43_6 : List VOper := [
  ⟨some 28, .move (.t 26), none, []⟩,
  ⟨some 29, .indexAddr 1 none (.t 24) (.t 26), none, []⟩,
  ⟨some 30, .load false 1 (.t 29), none, []⟩,
  ⟨some 8, .move (.t 28), none, []⟩,
  ⟨some 9, .move (.t 30), none, []⟩]
def r43_7 : List VOper := [
  ⟨some 31, .move (.t 7), none, []⟩,
  ⟨some 32, .move (.t 9), none, []⟩,
  ⟨some 33, .move (.t 2), none, []⟩,
  ⟨some 34, .move (.t 8), none, []⟩,
  ⟨some 35, .indexAddr 1 none (.t 33) (.t 34), none, []⟩,
  ⟨some 36, .load false 1 (.t 35), none, []⟩,
  ⟨some 37, .bin .mul (.t 32) (.t 36), none, []⟩,
  ⟨some 38, .bin .add (.t 31) (.t 37), none, []⟩,
  ⟨some 7, .move (.t 38), none, []⟩]
def r43_8 : List VOper := [
  ⟨some 39, .bin .add (.t 26) (.c (.d (.int .i64 1))), none, []⟩,
  ⟨some 26, .move (.t 39), none, []⟩]
def b43_0 : VCode := (.seq (.region false 0 [0, 1, 2, 7, 24, 25, 26, 27] r43_5) (.seq (.cond (.t 27) .skip (.exit 0)) (.seq (.block 1 (.seq (.region false 0 [0, 1, 2, 7, 8, 9, 24, 25, 26] r43_6) (.region false 0 [0, 1, 2, 7, 24, 25, 26] r43_7))) (.region false 0 [0, 1, 2, 7, 24, 25, 26] r43_8))))
def r43_9 : List VOper := [
  ⟨some 40, .move (.t 1), none, []⟩,
  ⟨some 41, .len false (.t 40), none, []⟩,
  ⟨some 42, .move (.c (.d (.int .i64 0))), none, []⟩]
def r43_10 : List VOper := [
  ⟨some 43, .bin .lss (.t 42) (.t 41), none, []⟩]
def r43_11 : List VOper := [
  ⟨some 44, .move (.t 42), none, []⟩,
  ⟨some 45, .indexAddr 1 none (.t 40) (.t 42), none, []⟩,
  ⟨some 46, .load false 1 (.t 45), none, []⟩,
  ⟨some 10, .move (.t 44), none, []⟩,
  ⟨some 11, .move (.t 46), none, []⟩]
def r43_12 : List VOper := [
  ⟨some 47, .move (.t 7), none, []⟩,
  ⟨some 48, .move (.t 11), none, []⟩,
  ⟨some 49, .move (.t 2), none, []⟩,
  ⟨some 50, .move (.t 0), none, []⟩,
  ⟨some 51, .len false (.t 50), none, []⟩,
  ⟨some 52, .move (.t 10), none, []⟩,
  ⟨some 53, .bin .add (.t 51) (.t 52), none, []⟩,
  ⟨some 54, .indexAddr 1 none (.t 49) (.t 53), none, []⟩,
  ⟨some 55, .load false 1 (.t 54), none, []⟩,
  ⟨some 56, .bin .mul (.t 48) (.t 55), none, []⟩,
  ⟨some 57, .bin .sub (.t 47) (.t 56), none, []⟩,
  ⟨some 7, .move (.t 57), none, []⟩]
def r43_13 : List VOper := [
  ⟨some 58, .bin .add (.t 42) (.c (.d (.int .i64 1))), none, []⟩,
  ⟨some 42, .move (.t 58), none, []⟩]
def b43_1 : VCode := (.seq (.region false 0 [0, 2, 7, 40, 41, 42, 43] r43_10) (.seq (.cond (.t 43) .skip (.exit 2)) (.seq (.block 3 (.seq (.region false 0 [0, 2, 7, 10, 11, 40, 41, 42] r43_11) (.region false 0 [0, 2, 7, 40, 41, 42] r43_12))) (.region false 0 [0, 2, 7, 40, 41, 42] r43_13))))
def r43_14 : List VOper := [
  ⟨some 59, .move (.t 7), none, []⟩,
  ⟨some 60, .bin .eql (.t 59) (.c (.d (.int .i64 0))), none, []⟩,
  ⟨some 6, .move (.t 60), none, []⟩]
def v43 : VFn := ⟨3, [.tmp 6], (.seq (.region false 0 [0, 1, 2] r43_0) (.seq (.seq (.region false 0 [0, 1, 2, 23] r43_1) (.cond (.t 23) (.seq (.region false 0 [6] r43_2) .ret) .skip)) (.seq (.region false 0 [0, 1, 2, 7] r43_3) (.seq (.seq (.region false 0 [0, 1, 2, 7, 24, 25, 26] r43_4) (.block 0 (.loop [0, 1, 2, 7, 24, 25, 26] b43_0))) (.seq (.seq (.region false 0 [0, 2, 7, 40, 41, 42] r43_9) (.block 2 (.loop [0, 2, 7, 40, 41, 42] b43_1))) (.seq (.region false 0 [6] r43_14) .ret))))))⟩
/-! loop.example/g00461/laws.eqIntS -/
def r44_0 : List VOper := [
  ⟨some 4, .move (.c (.d (.bool false))), none, []⟩]
def r44_1 : List VOper := [
  ⟨some 6, .move (.t 0), none, []⟩,
  ⟨some 7, .len false (.t 6), none, []⟩,
  ⟨some 8, .move (.t 1), none, []⟩,
  ⟨some 9, .len false (.t 8), none, []⟩,
  ⟨some 10, .bin .neq (.t 7) (.t 9), none, []⟩]
def r44_2 : List VOper := [
  ⟨some 4, .move (.c (.d (.bool false))), none, []⟩]
def r44_3 : List VOper := [
  ⟨some 5, .move (.c (.d (.int .i64 0))), none, []⟩]
def r44_4 : List VOper := [
  ⟨some 11, .move (.t 5), none, []⟩,
  ⟨some 12, .move (.t 0), none, []⟩,
  ⟨some 13, .len false (.t 12), none, []⟩,
  ⟨some 14, .bin .lss (.t 11) (.t 13), none, []⟩]
def r44_6 : List VOper := [
  ⟨some 17, .move (.t 0), none, []⟩,
  ⟨some 18, .move (.t 5), none, []⟩,
  ⟨some 19, .indexAddr 1 none (.t 17) (.t 18), none, [0, 1]⟩,
  ⟨some 20, .load false 1 (.t 19), none, [2]⟩,
  ⟨some 21, .move (.t 1), none, []⟩,
  ⟨some 22, .move (.t 5), none, []⟩,
  ⟨some 23, .indexAddr 1 none (.t 21) (.t 22), none, [4, 5]⟩,
  ⟨some 24, .load false 1 (.t 23), none, [6]⟩,
  ⟨some 25, .bin .neq (.t 20) (.t 24), none, [3, 7]⟩]
def r44_7 : List VOper := [
  ⟨some 4, .move (.c (.d (.bool false))), none, []⟩]
def r44_5 : List VOper := [
  ⟨some 15, .move (.t 5), none, []⟩,
  ⟨some 16, .bin .add (.t 15) (.c (.d (.int .i64 1))), none, []⟩,
  ⟨some 5, .move (.t 16), none, []⟩]
def b44_0 : VCode := (.seq (.seq (.region false 0 [0, 1, 5, 14] r44_4) (.cond (.t 14) .skip (.exit 0))) (.seq (.block 1 (.seq (.region true 0 [0, 1, 5, 25] r44_6) (.cond (.t 25) (.seq (.region false 0 [4] r44_7) .ret) .skip))) (.region false 0 [0, 1, 5] r44_5)))
def r44_8 : List VOper := [
  ⟨some 4, .move (.c (.d (.bool true))), none, []⟩]
def v44 : VFn := ⟨2, [.tmp 4], (.seq (.region false 0 [0, 1] r44_0) (.seq (.seq (.region false 0 [0, 1, 10] r44_1) (.cond (.t 10) (.seq (.region false 0 [4] r44_2) .ret) .skip)) (.seq (.seq (.region false 0 [0, 1, 5] r44_3) (.block 0 (.loop [0, 1, 5] b44_0))) (.seq (.region false 0 [4] r44_8) .ret))))⟩
/-! slices.ContainsFunc[[]int,int] -/
def r45_0 : List VOper := [
  ⟨some 4, .move (.c (.d (.bool false))), none, []⟩]
def r45_1 : List VOper := [
  ⟨some 5, .move (.t 0), none, []⟩,
  ⟨some 6, .move (.t 1), none, []⟩,
  ⟨some 7, .call false (.c (.fn 47 [])) [.t 5, .t 6], none, []⟩,
  ⟨some 8, .bin .geq (.t 7) (.c (.d (.int .i64 0))), none, []⟩,
  ⟨some 4, .move (.t 8), none, []⟩]
def v45 : VFn := ⟨2, [.tmp 4], (.seq (.region false 0 [0, 1] r45_0) (.seq (.region false 0 [4] r45_1) .ret))⟩
/-! loop.example/g00461/impl.Solves$1 -/
def r46_0 : List VOper := [
  ⟨some 2, .move (.c (.d (.bool false))), none, []⟩]
def r46_1 : List VOper := [
  ⟨some 3, .move (.t 0), none, []⟩,
  ⟨some 4, .bin .lss (.t 3) (.c (.d (.int .i64 0))), none, []⟩,
  ⟨some 2, .move (.t 4), none, []⟩]
def v46 : VFn := ⟨1, [.tmp 2], (.seq (.region false 0 [0] r46_0) (.seq (.region false 0 [2] r46_1) .ret))⟩
/-! slices.IndexFunc[[]int,int] -/
def r47_0 : List VOper := [
  ⟨some 4, .move (.c (.d (.int .i64 0))), none, []⟩]
def r47_1 : List VOper := [
  ⟨some 6, .move (.t 0), none, []⟩,
  ⟨some 7, .len false (.t 6), none, []⟩,
  ⟨some 8, .move (.c (.d (.int .i64 0))), none, []⟩]
def r47_2 : List VOper := [
  ⟨some 9, .bin .lss (.t 8) (.t 7), none, []⟩]
def r47_3 : List VOper := [
  ⟨some 10, .move (.t 8), none, []⟩,
  ⟨some 5, .move (.t 10), none, []⟩]
def r47_4 : List VOper := [
  ⟨some 11, .move (.t 1), none, []⟩,
  ⟨some 12, .move (.t 0), none, []⟩,
  ⟨some 13, .move (.t 5), none, []⟩,
  ⟨some 14, .indexAddr 1 none (.t 12) (.t 13), none, []⟩,
  ⟨some 15, .load false 1 (.t 14), none, []⟩,
  ⟨some 16, .call false (.t 11) [.t 15], none, []⟩]
def r47_5 : List VOper := [
  ⟨some 17, .move (.t 5), none, []⟩,
  ⟨some 4, .move (.t 17), none, []⟩]
def r47_6 : List VOper := [
  ⟨some 18, .bin .add (.t 8) (.c (.d (.int .i64 1))), none, []⟩,
  ⟨some 8, .move (.t 18), none, []⟩]
def b47_0 : VCode := (.seq (.region false 0 [0, 1, 7, 8, 9] r47_2) (.seq (.cond (.t 9) .skip (.exit 0)) (.seq (.block 1 (.seq (.region false 0 [0, 1, 5, 7, 8] r47_3) (.seq (.region false 0 [0, 1, 5, 7, 8, 16] r47_4) (.cond (.t 16) (.seq (.region false 0 [4] r47_5) .ret) .skip)))) (.region false 0 [0, 1, 7, 8] r47_6))))
def r47_7 : List VOper := [
  ⟨some 4, .move (.c (.d (.int .i64 (-1)))), none, []⟩]
def v47 : VFn := ⟨2, [.tmp 4], (.seq (.region false 0 [0, 1] r47_0) (.seq (.seq (.region false 0 [0, 1, 7, 8] r47_1) (.block 0 (.loop [0, 1, 7, 8] b47_0))) (.seq (.region false 0 [4] r47_7) .ret)))⟩
/-! loop.example/g00461/spec.l7Total -/
def r48_0 : List VOper := [
  ⟨some 6, .move (.c (.d (.int .i64 0))), none, []⟩]
def r48_1 : List VOper := [
  ⟨some 7, .move (.c (.d (.int .i64 0))), none, []⟩]
def r48_2 : List VOper := [
  ⟨some 8, .move (.c (.d (.int .i64 0))), none, []⟩]
def r48_3 : List VOper := [
  ⟨some 9, .move (.t 8), none, []⟩,
  ⟨some 10, .move (.t 0), none, []⟩,
  ⟨some 11, .len false (.t 10), none, []⟩,
  ⟨some 12, .bin .lss (.t 9) (.t 11), none, []⟩]
def r48_5 : List VOper := [
  ⟨some 15, .move (.t 7), none, []⟩,
  ⟨some 16, .move (.t 0), none, []⟩,
  ⟨some 17, .move (.t 8), none, []⟩,
  ⟨some 18, .indexAddr 1 none (.t 16) (.t 17), none, [1, 2]⟩,
  ⟨some 19, .load false 1 (.t 18), none, [3]⟩,
  ⟨some 20, .move (.t 1), none, []⟩,
  ⟨some 21, .move (.t 2), none, []⟩,
  ⟨some 22, .move (.t 8), none, []⟩,
  ⟨some 23, .bin .add (.t 21) (.t 22), none, [6, 7]⟩,
  ⟨some 24, .indexAddr 1 none (.t 20) (.t 23), none, [5, 8]⟩,
  ⟨some 25, .load false 1 (.t 24), none, [9]⟩,
  ⟨some 26, .bin .mul (.t 19) (.t 25), none, [4, 10]⟩,
  ⟨some 27, .bin .add (.t 15) (.t 26), none, [0, 11]⟩,
  ⟨some 7, .move (.t 27), none, [0, 1, 2, 3, 4, 5, 6, 7, 8, 9, 10, 11, 12]⟩]
def r48_4 : List VOper := [
  ⟨some 13, .move (.t 8), none, []⟩,
  ⟨some 14, .bin .add (.t 13) (.c (.d (.int .i64 1))), none, []⟩,
  ⟨some 8, .move (.t 14), none, []⟩]
def b48_0 : VCode := (.seq (.seq (.region false 0 [0, 1, 2, 7, 8, 12] r48_3) (.cond (.t 12) .skip (.exit 0))) (.seq (.block 1 (.region true 0 [0, 1, 2, 7, 8] r48_5)) (.region false 0 [0, 1, 2, 7, 8] r48_4)))
def r48_6 : List VOper := [
  ⟨some 28, .move (.t 7), none, []⟩,
  ⟨some 6, .move (.t 28), none, []⟩]
def v48 : VFn := ⟨3, [.tmp 6], (.seq (.region false 0 [0, 1, 2] r48_0) (.seq (.region false 0 [0, 1, 2, 7] r48_1) (.seq (.seq (.region false 0 [0, 1, 2, 7, 8] r48_2) (.block 0 (.loop [0, 1, 2, 7, 8] b48_0))) (.seq (.region false 0 [6] r48_6) .ret))))⟩
/-! loop.example/g00461/spec.Least -/
def r50_0 : List VOper := [
  ⟨some 4, .move (.c (.d (.bool false))), none, []⟩]
def r50_1 : List VOper := [
  ⟨some 5, .move (.c (.d (.bool false))), none, []⟩]
def r50_2 : List VOper := [
  ⟨some 6, .move (.c (.d (.int .i64 0))), none, []⟩]
def r50_3 : List VOper := [
  ⟨some 7, .move (.t 6), none, []⟩,
  ⟨some 8, .move (.t 0), none, []⟩,
  ⟨some 9, .len false (.t 8), none, []⟩,
  ⟨some 10, .bin .lss (.t 7) (.t 9), none, []⟩,
  ⟨some 11, .move (.t 10), none, []⟩,
  ⟨some 12, .move (.t 6), some (11, true), []⟩,
  ⟨some 13, .move (.t 1), some (11, true), []⟩,
  ⟨some 14, .len false (.t 13), some (11, true), []⟩,
  ⟨some 15, .bin .lss (.t 12) (.t 14), some (11, true), []⟩,
  ⟨some 16, .pick (.t 11) (.t 15) (.c (.d (.bool false))), none, []⟩]
def r50_5 : List VOper := [
  ⟨some 19, .move (.t 0), none, []⟩,
  ⟨some 20, .move (.t 6), none, []⟩,
  ⟨some 21, .indexAddr 1 none (.t 19) (.t 20), none, [0, 1]⟩,
  ⟨some 22, .load false 1 (.t 21), none, [2]⟩,
  ⟨some 23, .move (.t 1), none, []⟩,
  ⟨some 24, .move (.t 6), none, []⟩,
  ⟨some 25, .indexAddr 1 none (.t 23) (.t 24), none, [4, 5]⟩,
  ⟨some 26, .load false 1 (.t 25), none, [6]⟩,
  ⟨some 27, .bin .gtr (.t 22) (.t 26), none, [3, 7]⟩]
def r50_6 : List VOper := [
  ⟨some 4, .move (.c (.d (.bool false))), none, []⟩]
def r50_7 : List VOper := [
  ⟨some 28, .move (.t 5), none, []⟩,
  ⟨some 29, .move (.t 28), none, [0]⟩,
  ⟨some 30, .move (.t 0), some (29, false), [1]⟩,
  ⟨some 31, .move (.t 6), some (29, false), [1]⟩,
  ⟨some 32, .indexAddr 1 none (.t 30) (.t 31), some (29, false), [1, 2, 3]⟩,
  ⟨some 33, .load false 1 (.t 32), some (29, false), [1, 4]⟩,
  ⟨some 34, .move (.t 1), some (29, false), [1]⟩,
  ⟨some 35, .move (.t 6), some (29, false), [1]⟩,
  ⟨some 36, .indexAddr 1 none (.t 34) (.t 35), some (29, false), [1, 6, 7]⟩,
  ⟨some 37, .load false 1 (.t 36), some (29, false), [1, 8]⟩,
  ⟨some 38, .bin .lss (.t 33) (.t 37), some (29, false), [1, 5, 9]⟩,
  ⟨some 39, .pick (.t 29) (.c (.d (.bool true))) (.t 38), none, [1, 10]⟩,
  ⟨some 5, .move (.t 39), none, [0, 1, 2, 3, 4, 5, 6, 7, 8, 9, 10, 11]⟩]
def r50_4 : List VOper := [
  ⟨some 17, .move (.t 6), none, []⟩,
  ⟨some 18, .bin .add (.t 17) (.c (.d (.int .i64 1))), none, []⟩,
  ⟨some 6, .move (.t 18), none, []⟩]
def b50_0 : VCode := (.seq (.seq (.region false 0 [0, 1, 5, 6, 16] r50_3) (.cond (.t 16) .skip (.exit 0))) (.seq (.block 1 (.seq (.seq (.region true 0 [0, 1, 5, 6, 27] r50_5) (.cond (.t 27) (.seq (.region false 0 [4] r50_6) .ret) .skip)) (.region true 0 [0, 1, 5, 6] r50_7))) (.region false 0 [0, 1, 5, 6] r50_4)))
def r50_8 : List VOper := [
  ⟨some 40, .move (.t 5), none, []⟩,
  ⟨some 41, .move (.t 40), none, []⟩,
  ⟨some 42, .move (.t 0), some (41, true), []⟩,
  ⟨some 43, .len false (.t 42), some (41, true), []⟩,
  ⟨some 44, .move (.t 1), some (41, true), []⟩,
  ⟨some 45, .len false (.t 44), some (41, true), []⟩,
  ⟨some 46, .bin .eql (.t 43) (.t 45), some (41, true), []⟩,
  ⟨some 47, .pick (.t 41) (.t 46) (.c (.d (.bool false))), none, []⟩,
  ⟨some 4, .move (.t 47), none, []⟩]
def v50 : VFn := ⟨2, [.tmp 4], (.seq (.region false 0 [0, 1] r50_0) (.seq (.region false 0 [0, 1, 5] r50_1) (.seq (.seq (.region false 0 [0, 1, 5, 6] r50_2) (.block 0 (.loop [0, 1, 5, 6] b50_0))) (.seq (.region false 0 [4] r50_8) .ret))))⟩
/-! loop.example/g00461/impl.Least -/
def r51_0 : List VOper := [
  ⟨some 4, .move (.c (.d (.bool false))), none, []⟩]
def r51_1 : List VOper := [
  ⟨some 7, .move (.t 0), none, []⟩,
  ⟨some 8, .len false (.t 7), none, []⟩,
  ⟨some 9, .move (.t 1), none, []⟩,
  ⟨some 10, .len false (.t 9), none, []⟩,
  ⟨some 11, .bin .neq (.t 8) (.t 10), none, []⟩]
def r51_2 : List VOper := [
  ⟨some 4, .move (.c (.d (.bool false))), none, []⟩]
def r51_3 : List VOper := [
  ⟨some 5, .move (.c (.d (.bool false))), none, []⟩]
def r51_4 : List VOper := [
  ⟨some 12, .move (.t 0), none, []⟩,
  ⟨some 13, .len false (.t 12), none, []⟩,
  ⟨some 14, .move (.c (.d (.int .i64 0))), none, []⟩]
def r51_5 : List VOper := [
  ⟨some 15, .bin .lss (.t 14) (.t 13), none, []⟩]
def r51_6 : List VOper := [
  ⟨some 16, .move (.t 14), none, []⟩,
  ⟨some 6, .move (.t 16), none, []⟩]
def r51_7 : List VOper := [
  ⟨some 17, .move (.t 0), none, []⟩,
  ⟨some 18, .move (.t 6), none, []⟩,
  ⟨some 19, .indexAddr 1 none (.t 17) (.t 18), none, [0, 1]⟩,
  ⟨some 20, .load false 1 (.t 19), none, [2]⟩,
  ⟨some 21, .move (.t 1), none, []⟩,
  ⟨some 22, .move (.t 6), none, []⟩,
  ⟨some 23, .indexAddr 1 none (.t 21) (.t 22), none, [4, 5]⟩,
  ⟨some 24, .load false 1 (.t 23), none, [6]⟩,
  ⟨some 25, .bin .gtr (.t 20) (.t 24), none, [3, 7]⟩]
def r51_8 : List VOper := [
  ⟨some 4, .move (.c (.d (.bool false))), none, []⟩]
def r51_9 : List VOper := [
  ⟨some 26, .move (.t 5), none, []⟩,
  ⟨some 27, .move (.t 26), none, [0]⟩,
  ⟨some 28, .move (.t 0), some (27, false), [1]⟩,
  ⟨some 29, .move (.t 6), some (27, false), [1]⟩,
  ⟨some 30, .indexAddr 1 none (.t 28) (.t 29), some (27, false), [1, 2, 3]⟩,
  ⟨some 31, .load false 1 (.t 30), some (27, false), [1, 4]⟩,
  ⟨some 32, .move (.t 1), some (27, false), [1]⟩,
  ⟨some 33, .move (.t 6), some (27, false), [1]⟩,
  ⟨some 34, .indexAddr 1 none (.t 32) (.t 33), some (27, false), [1, 6, 7]⟩,
  ⟨some 35, .load false 1 (.t 34), some (27, false), [1, 8]⟩,
  ⟨some 36, .bin .lss (.t 31) (.t 35), some (27, false), [1, 5, 9]⟩,
  ⟨some 37, .pick (.t 27) (.c (.d (.bool true))) (.t 36), none, [1, 10]⟩,
  ⟨some 5, .move (.t 37), none, [0, 1, 2, 3, 4, 5, 6, 7, 8, 9, 10, 11]⟩]
def r51_10 : List VOper := [
  ⟨some 38, .bin .add (.t 14) (.c (.d (.int .i64 1))), none, []⟩,
  ⟨some 14, .move (.t 38), none, []⟩]
def b51_0 : VCode := (.seq (.region false 0 [0, 1, 5, 13, 14, 15] r51_5) (.seq (.cond (.t 15) .skip (.exit 0)) (.seq (.block 1 (.seq (.region false 0 [0, 1, 5, 6, 13, 14] r51_6) (.seq (.seq (.region true 0 [0, 1, 5, 6, 13, 14, 25] r51_7) (.cond (.t 25) (.seq (.region false 0 [4] r51_8) .ret) .skip)) (.region true 0 [0, 1, 5, 13, 14] r51_9)))) (.region false 0 [0, 1, 5, 13, 14] r51_10))))
def r51_11 : List VOper := [
  ⟨some 39, .move (.t 5), none, []⟩,
  ⟨some 4, .move (.t 39), none, []⟩]
def v51 : VFn := ⟨2, [.tmp 4], (.seq (.region false 0 [0, 1] r51_0) (.seq (.seq (.region false 0 [0, 1, 11] r51_1) (.cond (.t 11) (.seq (.region false 0 [4] r51_2) .ret) .skip)) (.seq (.region false 0 [0, 1, 5] r51_3) (.seq (.seq (.region false 0 [0, 1, 5, 13, 14] r51_4) (.block 0 (.loop [0, 1, 5, 13, 14] b51_0))) (.seq (.region false 0 [4] r51_11) .ret)))))⟩
/-! loop.example/g00461/impl.Basis -/
def r207_0 : List VOper := [
  ⟨some 4, .move (.c (.d (.sl .nil []))), none, []⟩,
  ⟨some 5, .move (.c (.d (.bool false))), none, []⟩]
def r207_1 : List VOper := [
  ⟨some 16, .move (.t 0), none, []⟩,
  ⟨some 17, .call true (.c (.fn 222 [])) [.t 16], none, []⟩,
  ⟨some 18, .not (.t 17), none, []⟩,
  ⟨some 19, .move (.t 18), none, []⟩,
  ⟨some 20, .move (.t 1), some (19, false), []⟩,
  ⟨some 21, .call true (.c (.fn 222 [])) [.t 20], some (19, false), []⟩,
  ⟨some 22, .not (.t 21), some (19, false), []⟩,
  ⟨some 23, .pick (.t 19) (.c (.d (.bool true))) (.t 22), none, []⟩]
def r207_2 : List VOper := [
  ⟨some 4, .move (.c (.d (.sl .nil []))), none, []⟩,
  ⟨some 5, .move (.c (.d (.bool false))), none, []⟩]
def r207_3 : List VOper := [
  ⟨some 24, .buildSlice 1 (.sl .nil []) 0 [], none, []⟩,
  ⟨some 6, .move (.t 24), none, []⟩]
def r207_4 : List VOper := [
  ⟨some 25, .move (.t 1), none, []⟩,
  ⟨some 26, .len false (.t 25), none, []⟩,
  ⟨some 27, .move (.t 0), none, []⟩,
  ⟨some 28, .call true (.c (.fn 223 [])) [.t 27], none, []⟩,
  ⟨some 29, .call true (.c (.fn 224 [])) [.t 26, .t 28], none, []⟩,
  ⟨some 7, .move (.t 29), none, []⟩]
def r207_5 : List VOper := [
  ⟨some 30, .move (.t 0), none, []⟩,
  ⟨some 31, .len false (.t 30), none, []⟩,
  ⟨some 32, .move (.t 1), none, []⟩,
  ⟨some 33, .call true (.c (.fn 223 [])) [.t 32], none, []⟩,
  ⟨some 34, .call true (.c (.fn 224 [])) [.t 31, .t 33], none, []⟩,
  ⟨some 35, .len false (.t 34), none, []⟩,
  ⟨some 36, .move (.c (.d (.int .i64 0))), none, []⟩]
def r207_6 : List VOper := [
  ⟨some 37, .bin .lss (.t 36) (.t 35), none, []⟩]
def r207_7 : List VOper := [
  ⟨some 38, .indexAddr 1 none (.t 34) (.t 36), none, []⟩,
  ⟨some 39, .load false 1 (.t 38), none, []⟩,
  ⟨some 9, .move (.t 39), none, []⟩]
def r207_8 : List VOper := [
  ⟨some 40, .move (.t 7), none, []⟩,
  ⟨some 41, .len false (.t 40), none, []⟩,
  ⟨some 42, .move (.c (.d (.int .i64 0))), none, []⟩]
def r207_9 : List VOper := [
  ⟨some 43, .bin .lss (.t 42) (.t 41), none, []⟩]
def r207_10 : List VOper := [
  ⟨some 44, .indexAddr 1 none (.t 40) (.t 42), none, []⟩,
  ⟨some 45, .load false 1 (.t 44), none, []⟩,
  ⟨some 11, .move (.t 45), none, []⟩]
def r207_11 : List VOper := [
  ⟨some 46, .move (.t 9), none, []⟩,
  ⟨some 47, .move (.t 11), none, []⟩,
  ⟨some 48, .buildSlice 1 (.sl .nil []) 2 [(0, .t 46), (1, .t 47)], none, []⟩,
  ⟨some 49, .call true (.c (.fn 225 [])) [.t 48], none, []⟩,
  ⟨some 12, .move (.t 49), none, []⟩]
def r207_12 : List VOper := [
  ⟨some 50, .move (.t 12), none, []⟩,
  ⟨some 51, .call true (.c (.fn 223 [])) [.t 50], none, []⟩,
  ⟨some 52, .bin .gtr (.t 51) (.c (.d (.int .i64 0))), none, []⟩,
  ⟨some 53, .move (.t 52), none, []⟩,
  ⟨some 54, .move (.t 0), some (53, true), []⟩,
  ⟨some 55, .move (.t 1), some (53, true), []⟩,
  ⟨some 56, .move (.t 12), some (53, true), []⟩,
  ⟨some 57, .call true (.c (.fn 43 [])) [.t 54, .t 55, .t 56], some (53, true), []⟩,
  ⟨some 58, .pick (.t 53) (.t 57) (.c (.d (.bool false))), none, []⟩]
def r207_13 : List VOper := [
  ⟨some 59, .move (.t 6), none, []⟩,
  ⟨some 60, .move (.t 12), none, []⟩,
  ⟨some 61, .buildSlice 1 (.sl .nil []) 1 [(0, .t 60)], none, []⟩,
  ⟨some 62, .append 1 24 (.t 59) (.t 61), none, []⟩,
  ⟨some 6, .move (.t 62), none, []⟩]
def r207_14 : List VOper := [
  ⟨some 63, .bin .add (.t 42) (.c (.d (.int .i64 1))), none, []⟩,
  ⟨some 42, .move (.t 63), none, []⟩]
def b207_1 : VCode := (.seq (.region false 0 [0, 1, 6, 7, 9, 34, 35, 36, 40, 41, 42, 43] r207_9) (.seq (.cond (.t 43) .skip (.exit 2)) (.seq (.block 3 (.seq (.region false 0 [0, 1, 6, 7, 9, 11, 34, 35, 36, 40, 41, 42] r207_10) (.seq (.region false 0 [0, 1, 6, 7, 9, 12, 34, 35, 36, 40, 41, 42] r207_11) (.seq (.region false 0 [0, 1, 6, 7, 9, 12, 34, 35, 36, 40, 41, 42, 58] r207_12) (.cond (.t 58) (.region false 0 [0, 1, 6, 7, 9, 34, 35, 36, 40, 41, 42] r207_13) .skip))))) (.region false 0 [0, 1, 6, 7, 9, 34, 35, 36, 40, 41, 42] r207_14))))
def r207_15 : List VOper := [
  ⟨some 64, .bin .add (.t 36) (.c (.d (.int .i64 1))), none, []⟩,
  ⟨some 36, .move (.t 64), none, []⟩]
def b207_0 : VCode := (.seq (.region false 0 [0, 1, 6, 7, 34, 35, 36, 37] r207_6) (.seq (.cond (.t 37) .skip (.exit 0)) (.seq (.block 1 (.seq (.region false 0 [0, 1, 6, 7, 9, 34, 35, 36] r207_7) (.seq (.region false 0 [0, 1, 6, 7, 9, 34, 35, 36, 40, 41, 42] r207_8) (.block 2 (.loop [0, 1, 6, 7, 9, 34, 35, 36, 40, 41, 42] b207_1))))) (.region false 0 [0, 1, 6, 7, 34, 35, 36] r207_15))))
def r207_16 : List VOper := [
  ⟨some 65, .buildSlice 1 (.sl .nil []) 0 [], none, []⟩,
  ⟨some 13, .move (.t 65), none, []⟩]
def r207_17 : List VOper := [
  ⟨some 66, .move (.t 6), none, []⟩,
  ⟨some 67, .len false (.t 66), none, []⟩,
  ⟨some 68, .move (.c (.d (.int .i64 0))), none, []⟩]
def r207_18 : List VOper := [
  ⟨some 69, .bin .lss (.t 68) (.t 67), none, []⟩]
def r207_19 : List VOper := [
  ⟨some 70, .indexAddr 1 none (.t 66) (.t 68), none, []⟩,
  ⟨some 71, .load false 1 (.t 70), none, []⟩,
  ⟨some 15, .alloc 0 [.sl .nil []], none, []⟩,
  ⟨none, .store false 1 (.t 15) (.t 71), none, []⟩]
def r207_20 : List VOper := [
  ⟨some 72, .move (.t 6), none, []⟩,
  ⟨some 73, .makeFunc 226 [.t 15], none, []⟩,
  ⟨some 74, .call false (.c (.fn 227 [])) [.t 72, .t 73], none, []⟩,
  ⟨some 75, .not (.t 74), none, []⟩]
def r207_21 : List VOper := [
  ⟨some 76, .move (.t 13), none, []⟩,
  ⟨some 77, .load false 1 (.t 15), none, []⟩,
  ⟨some 78, .buildSlice 1 (.sl .nil []) 1 [(0, .t 77)], none, []⟩,
  ⟨some 79, .append 1 24 (.t 76) (.t 78), none, []⟩,
  ⟨some 13, .move (.t 79), none, []⟩]
def r207_22 : List VOper := [
  ⟨some 80, .bin .add (.t 68) (.c (.d (.int .i64 1))), none, []⟩,
  ⟨some 68, .move (.t 80), none, []⟩]
def b207_2 : VCode := (.seq (.region false 0 [6, 13, 66, 67, 68, 69] r207_18) (.seq (.cond (.t 69) .skip (.exit 4)) (.seq (.block 5 (.seq (.region false 1 [6, 13, 15, 66, 67, 68] r207_19) (.seq (.region false 0 [6, 13, 15, 66, 67, 68, 75] r207_20) (.cond (.t 75) (.region false 0 [6, 13, 66, 67, 68] r207_21) .skip)))) (.region false 0 [6, 13, 66, 67, 68] r207_22))))
def r207_23 : List VOper := [
  ⟨some 81, .move (.t 13), none, []⟩,
  ⟨some 82, .len false (.t 81), none, []⟩,
  ⟨some 83, .bin .gtr (.t 82) (.c (.d (.int .i64 60))), none, []⟩]
def r207_24 : List VOper := [
  ⟨some 4, .move (.c (.d (.sl .nil []))), none, []⟩,
  ⟨some 5, .move (.c (.d (.bool false))), none, []⟩]
def r207_25 : List VOper := [
  ⟨some 84, .move (.t 13), none, []⟩,
  ⟨some 4, .move (.t 84), none, []⟩,
  ⟨some 5, .move (.c (.d (.bool true))), none, []⟩]
def v207 : VFn := ⟨2, [.tmp 4, .tmp 5], (.seq (.region false 0 [0, 1] r207_0) (.seq (.seq (.region false 0 [0, 1, 23] r207_1) (.cond (.t 23) (.seq (.region false 0 [4, 5] r207_2) .ret) .skip)) (.seq (.region false 0 [0, 1, 6] r207_3) (.seq (.region false 0 [0, 1, 6, 7] r207_4) (.seq (.seq (.region false 0 [0, 1, 6, 7, 34, 35, 36] r207_5) (.block 0 (.loop [0, 1, 6, 7, 34, 35, 36] b207_0))) (.seq (.region false 0 [6, 13] r207_16) (.seq (.seq (.region false 0 [6, 13, 66, 67, 68] r207_17) (.block 4 (.loop [6, 13, 66, 67, 68] b207_2))) (.seq (.seq (.region false 0 [13, 83] r207_23) (.cond (.t 83) (.seq (.region false 0 [4, 5] r207_24) .ret) .skip)) (.seq (.region false 0 [4, 5] r207_25) .ret)))))))))⟩
/-! loop.example/g00461/spec.Basis -/
def r208_0 : List VOper := [
  ⟨some 4, .move (.c (.d (.sl .nil []))), none, []⟩,
  ⟨some 5, .move (.c (.d (.bool false))), none, []⟩]
def r208_1 : List VOper := [
  ⟨some 11, .buildSlice 1 (.sl .nil []) 0 [], none, []⟩,
  ⟨some 6, .move (.t 11), none, []⟩]
def r208_2 : List VOper := [
  ⟨some 12, .move (.t 0), none, []⟩,
  ⟨some 13, .call true (.c (.fn 217 [])) [.t 12], none, []⟩,
  ⟨some 14, .not (.t 13), none, []⟩,
  ⟨some 15, .move (.t 14), none, []⟩,
  ⟨some 16, .move (.t 1), some (15, false), []⟩,
  ⟨some 17, .call true (.c (.fn 217 [])) [.t 16], some (15, false), []⟩,
  ⟨some 18, .not (.t 17), some (15, false), []⟩,
  ⟨some 19, .pick (.t 15) (.c (.d (.bool true))) (.t 18), none, []⟩]
def r208_3 : List VOper := [
  ⟨some 20, .move (.t 6), none, []⟩,
  ⟨some 4, .move (.t 20), none, []⟩,
  ⟨some 5, .move (.c (.d (.bool false))), none, []⟩]
def r208_4 : List VOper := [
  ⟨some 21, .move (.t 0), none, []⟩,
  ⟨some 22, .move (.t 1), none, []⟩,
  ⟨some 23, .call true (.c (.fn 218 [])) [.t 21, .t 22], none, []⟩,
  ⟨some 7, .move (.t 23), none, []⟩]
def r208_5 : List VOper := [
  ⟨some 8, .move (.c (.d (.int .i64 0))), none, []⟩]
def r208_6 : List VOper := [
  ⟨some 24, .move (.t 8), none, []⟩,
  ⟨some 25, .move (.t 7), none, []⟩,
  ⟨some 26, .len false (.t 25), none, []⟩,
  ⟨some 27, .bin .lss (.t 24) (.t 26), none, []⟩]
def r208_8 : List VOper := [
  ⟨some 9, .move (.c (.d (.bool true))), none, []⟩]
def r208_9 : List VOper := [
  ⟨some 10, .move (.c (.d (.int .i64 0))), none, []⟩]
def r208_10 : List VOper := [
  ⟨some 30, .move (.t 10), none, []⟩,
  ⟨some 31, .move (.t 7), none, []⟩,
  ⟨some 32, .len false (.t 31), none, []⟩,
  ⟨some 33, .bin .lss (.t 30) (.t 32), none, []⟩,
  ⟨some 34, .move (.t 33), none, []⟩,
  ⟨some 35, .move (.t 9), some (34, true), []⟩,
  ⟨some 36, .pick (.t 34) (.t 35) (.c (.d (.bool false))), none, []⟩]
def r208_12 : List VOper := [
  ⟨some 39, .move (.t 7), none, []⟩,
  ⟨some 40, .move (.t 10), none, []⟩,
  ⟨some 41, .indexAddr 1 none (.t 39) (.t 40), none, [0, 1]⟩,
  ⟨some 42, .load false 1 (.t 41), none, [2]⟩,
  ⟨some 43, .move (.t 7), none, []⟩,
  ⟨some 44, .move (.t 8), none, []⟩,
  ⟨some 45, .indexAddr 1 none (.t 43) (.t 44), none, [4, 5]⟩,
  ⟨some 46, .load false 1 (.t 45), none, [6]⟩,
  ⟨some 47, .call true (.c (.fn 50 [])) [.t 42, .t 46], none, [3, 7]⟩,
  ⟨some 48, .not (.t 47), none, [8]⟩,
  ⟨some 9, .move (.t 48), none, [0, 1, 2, 3, 4, 5, 6, 7, 8, 9]⟩]
def r208_11 : List VOper := [
  ⟨some 37, .move (.t 10), none, []⟩,
  ⟨some 38, .bin .add (.t 37) (.c (.d (.int .i64 1))), none, []⟩,
  ⟨some 10, .move (.t 38), none, []⟩]
def b208_1 : VCode := (.seq (.seq (.region false 0 [6, 7, 8, 9, 10, 36] r208_10) (.cond (.t 36) .skip (.exit 2))) (.seq (.block 3 (.region true 0 [6, 7, 8, 9, 10] r208_12)) (.region false 0 [6, 7, 8, 9, 10] r208_11)))
def r208_13 : List VOper := [
  ⟨some 49, .move (.t 9), none, []⟩]
def r208_14 : List VOper := [
  ⟨some 50, .move (.t 6), none, []⟩,
  ⟨some 51, .move (.t 7), none, []⟩,
  ⟨some 52, .move (.t 8), none, []⟩,
  ⟨some 53, .indexAddr 1 none (.t 51) (.t 52), none, []⟩,
  ⟨some 54, .load false 1 (.t 53), none, []⟩,
  ⟨some 55, .buildSlice 1 (.sl .nil []) 1 [(0, .t 54)], none, []⟩,
  ⟨some 56, .append 1 24 (.t 50) (.t 55), none, []⟩,
  ⟨some 6, .move (.t 56), none, []⟩]
def r208_7 : List VOper := [
  ⟨some 28, .move (.t 8), none, []⟩,
  ⟨some 29, .bin .add (.t 28) (.c (.d (.int .i64 1))), none, []⟩,
  ⟨some 8, .move (.t 29), none, []⟩]
def b208_0 : VCode := (.seq (.seq (.region false 0 [6, 7, 8, 27] r208_6) (.cond (.t 27) .skip (.exit 0))) (.seq (.block 1 (.seq (.region false 0 [6, 7, 8, 9] r208_8) (.seq (.seq (.region false 0 [6, 7, 8, 9, 10] r208_9) (.block 2 (.loop [6, 7, 8, 9, 10] b208_1))) (.seq (.region false 0 [6, 7, 8, 49] r208_13) (.cond (.t 49) (.region false 0 [6, 7, 8] r208_14) .skip))))) (.region false 0 [6, 7, 8] r208_7)))
def r208_15 : List VOper := [
  ⟨some 57, .move (.t 6), none, []⟩,
  ⟨some 58, .len false (.t 57), none, []⟩,
  ⟨some 59, .bin .gtr (.t 58) (.c (.d (.int .i64 60))), none, []⟩]
def r208_16 : List VOper := [
  ⟨some 60, .buildSlice 1 (.sl .nil []) 0 [], none, []⟩,
  ⟨some 4, .move (.t 60), none, []⟩,
  ⟨some 5, .move (.c (.d (.bool false))), none, []⟩]
def r208_17 : List VOper := [
  ⟨some 61, .move (.t 6), none, []⟩,
  ⟨some 4, .move (.t 61), none, []⟩,
  ⟨some 5, .move (.c (.d (.bool true))), none, []⟩]
def v208 : VFn := ⟨2, [.tmp 4, .tmp 5], (.seq (.region false 0 [0, 1] r208_0) (.seq (.region false 0 [0, 1, 6] r208_1) (.seq (.seq (.region false 0 [0, 1, 6, 19] r208_2) (.cond (.t 19) (.seq (.region false 0 [4, 5] r208_3) .ret) .skip)) (.seq (.region false 0 [6, 7] r208_4) (.seq (.seq (.region false 0 [6, 7, 8] r208_5) (.block 0 (.loop [6, 7, 8] b208_0))) (.seq (.seq (.region false 0 [6, 59] r208_15) (.cond (.t 59) (.seq (.region false 0 [4, 5] r208_16) .ret) .skip)) (.seq (.region false 0 [4, 5] r208_17) .ret)))))))⟩
/-! loop.example/g00461/spec.l7Fine -/
def r217_0 : List VOper := [
  ⟨some 2, .move (.c (.d (.bool false))), none, []⟩]
def r217_1 : List VOper := [
  ⟨some 3, .move (.c (.d (.int .i64 0))), none, []⟩]
def r217_2 : List VOper := [
  ⟨some 4, .move (.t 3), none, []⟩,
  ⟨some 5, .move (.t 0), none, []⟩,
  ⟨some 6, .len false (.t 5), none, []⟩,
  ⟨some 7, .bin .lss (.t 4) (.t 6), none, []⟩]
def r217_4 : List VOper := [
  ⟨some 10, .move (.t 0), none, []⟩,
  ⟨some 11, .move (.t 3), none, []⟩,
  ⟨some 12, .indexAddr 1 none (.t 10) (.t 11), none, []⟩,
  ⟨some 13, .load false 1 (.t 12), none, []⟩,
  ⟨some 14, .call true (.c (.fn 31 [])) [.t 13, .c (.d (.int .i64 1)), .c (.d (.int .i64 4))], none, []⟩,
  ⟨some 15, .not (.t 14), none, []⟩]
def r217_5 : List VOper := [
  ⟨some 2, .move (.c (.d (.bool false))), none, []⟩]
def r217_3 : List VOper := [
  ⟨some 8, .move (.t 3), none, []⟩,
  ⟨some 9, .bin .add (.t 8) (.c (.d (.int .i64 1))), none, []⟩,
  ⟨some 3, .move (.t 9), none, []⟩]
def b217_0 : VCode := (.seq (.seq (.region false 0 [0, 3, 7] r217_2) (.cond (.t 7) .skip (.exit 0))) (.seq (.block 1 (.seq (.region false 0 [0, 3, 15] r217_4) (.cond (.t 15) (.seq (.region false 0 [2] r217_5) .ret) .skip))) (.region false 0 [0, 3] r217_3)))
def r217_6 : List VOper := [
  ⟨some 16, .move (.t 0), none, []⟩,
  ⟨some 17, .len false (.t 16), none, []⟩,
  ⟨some 18, .call true (.c (.fn 31 [])) [.t 17, .c (.d (.int .i64 1)), .c (.d (.int .i64 5))], none, []⟩,
  ⟨some 2, .move (.t 18), none, []⟩]
def v217 : VFn := ⟨1, [.tmp 2], (.seq (.region false 0 [0] r217_0) (.seq (.seq (.region false 0 [0, 3] r217_1) (.block 0 (.loop [0, 3] b217_0))) (.seq (.region false 0 [2] r217_6) .ret)))⟩
/-! loop.example/g00461/spec.l7All -/
def r218_0 : List VOper := [
  ⟨some 4, .move (.c (.d (.sl .nil []))), none, []⟩]
def r218_1 : List VOper := [
  ⟨some 12, .buildSlice 1 (.sl .nil []) 0 [], none, []⟩,
  ⟨some 5, .move (.t 12), none, []⟩]
def r218_2 : List VOper := [
  ⟨some 13, .move (.t 0), none, []⟩,
  ⟨some 14, .len false (.t 13), none, []⟩,
  ⟨some 15, .move (.t 1), none, []⟩,
  ⟨some 16, .call true (.c (.fn 219 [])) [.t 15], none, []⟩,
  ⟨some 17, .call true (.c (.fn 220 [])) [.t 14, .t 16], none, []⟩,
  ⟨some 6, .move (.t 17), none, []⟩]
def r218_3 : List VOper := [
  ⟨some 18, .move (.t 1), none, []⟩,
  ⟨some 19, .len false (.t 18), none, []⟩,
  ⟨some 20, .move (.t 0), none, []⟩,
  ⟨some 21, .call true (.c (.fn 219 [])) [.t 20], none, []⟩,
  ⟨some 22, .call true (.c (.fn 220 [])) [.t 19, .t 21], none, []⟩,
  ⟨some 7, .move (.t 22), none, []⟩]
def r218_4 : List VOper := [
  ⟨some 8, .move (.c (.d (.int .i64 1))), none, []⟩]
def r218_5 : List VOper := [
  ⟨some 23, .move (.t 8), none, []⟩,
  ⟨some 24, .move (.t 6), none, []⟩,
  ⟨some 25, .len false (.t 24), none, []⟩,
  ⟨some 26, .bin .lss (.t 23) (.t 25), none, []⟩]
def r218_7 : List VOper := [
  ⟨some 29, .move (.t 0), none, []⟩,
  ⟨some 30, .move (.t 6), none, []⟩,
  ⟨some 31, .move (.t 8), none, []⟩,
  ⟨some 32, .indexAddr 1 none (.t 30) (.t 31), none, []⟩,
  ⟨some 33, .load false 1 (.t 32), none, []⟩,
  ⟨some 34, .call true (.c (.fn 48 [])) [.t 29, .t 33, .c (.d (.int .i64 0))], none, []⟩,
  ⟨some 9, .move (.t 34), none, []⟩]
def r218_8 : List VOper := [
  ⟨some 10, .move (.c (.d (.int .i64 1))), none, []⟩]
def r218_9 : List VOper := [
  ⟨some 35, .move (.t 10), none, []⟩,
  ⟨some 36, .move (.t 7), none, []⟩,
  ⟨some 37, .len false (.t 36), none, []⟩,
  ⟨some 38, .bin .lss (.t 35) (.t 37), none, []⟩]
def r218_11 : List VOper := [
  ⟨some 41, .move (.t 1), none, []⟩,
  ⟨some 42, .move (.t 7), none, []⟩,
  ⟨some 43, .move (.t 10), none, []⟩,
  ⟨some 44, .indexAddr 1 none (.t 42) (.t 43), none, []⟩,
  ⟨some 45, .load false 1 (.t 44), none, []⟩,
  ⟨some 46, .call true (.c (.fn 48 [])) [.t 41, .t 45, .c (.d (.int .i64 0))], none, []⟩,
  ⟨some 47, .move (.t 9), none, []⟩,
  ⟨some 48, .bin .eql (.t 46) (.t 47), none, []⟩]
def r218_12 : List VOper := [
  ⟨some 49, .buildSlice 1 (.int .i64 0) 0 [], none, []⟩,
  ⟨some 50, .move (.t 6), none, []⟩,
  ⟨some 51, .move (.t 8), none, []⟩,
  ⟨some 52, .indexAddr 1 none (.t 50) (.t 51), none, []⟩,
  ⟨some 53, .load false 1 (.t 52), none, []⟩,
  ⟨some 54, .append 1 8 (.t 49) (.t 53), none, []⟩,
  ⟨some 11, .move (.t 54), none, []⟩]
def r218_13 : List VOper := [
  ⟨some 55, .move (.t 5), none, []⟩,
  ⟨some 56, .move (.t 11), none, []⟩,
  ⟨some 57, .move (.t 7), none, []⟩,
  ⟨some 58, .move (.t 10), none, []⟩,
  ⟨some 59, .indexAddr 1 none (.t 57) (.t 58), none, []⟩,
  ⟨some 60, .load false 1 (.t 59), none, []⟩,
  ⟨some 61, .append 1 8 (.t 56) (.t 60), none, []⟩,
  ⟨some 62, .buildSlice 1 (.sl .nil []) 1 [(0, .t 61)], none, []⟩,
  ⟨some 63, .append 1 24 (.t 55) (.t 62), none, []⟩,
  ⟨some 5, .move (.t 63), none, []⟩]
def r218_10 : List VOper := [
  ⟨some 39, .move (.t 10), none, []⟩,
  ⟨some 40, .bin .add (.t 39) (.c (.d (.int .i64 1))), none, []⟩,
  ⟨some 10, .move (.t 40), none, []⟩]
def b218_1 : VCode := (.seq (.seq (.region false 0 [0, 1, 5, 6, 7, 8, 9, 10, 38] r218_9) (.cond (.t 38) .skip (.exit 2))) (.seq (.block 3 (.seq (.region false 0 [0, 1, 5, 6, 7, 8, 9, 10, 48] r218_11) (.cond (.t 48) (.seq (.region false 0 [0, 1, 5, 6, 7, 8, 9, 10, 11] r218_12) (.region false 0 [0, 1, 5, 6, 7, 8, 9, 10] r218_13)) .skip))) (.region false 0 [0, 1, 5, 6, 7, 8, 9, 10] r218_10)))
def r218_6 : List VOper := [
  ⟨some 27, .move (.t 8), none, []⟩,
  ⟨some 28, .bin .add (.t 27) (.c (.d (.int .i64 1))), none, []⟩,
  ⟨some 8, .move (.t 28), none, []⟩]
def b218_0 : VCode := (.seq (.seq (.region false 0 [0, 1, 5, 6, 7, 8, 26] r218_5) (.cond (.t 26) .skip (.exit 0))) (.seq (.block 1 (.seq (.region false 0 [0, 1, 5, 6, 7, 8, 9] r218_7) (.seq (.region false 0 [0, 1, 5, 6, 7, 8, 9, 10] r218_8) (.block 2 (.loop [0, 1, 5, 6, 7, 8, 9, 10] b218_1))))) (.region false 0 [0, 1, 5, 6, 7, 8] r218_6)))
def r218_14 : List VOper := [
  ⟨some 64, .move (.t 5), none, []⟩,
  ⟨some 4, .move (.t 64), none, []⟩]
def v218 : VFn := ⟨2, [.tmp 4], (.seq (.region false 0 [0, 1] r218_0) (.seq (.region false 0 [0, 1, 5] r218_1) (.seq (.region false 0 [0, 1, 5, 6] r218_2) (.seq (.region false 0 [0, 1, 5, 6, 7] r218_3) (.seq (.seq (.region false 0 [0, 1, 5, 6, 7, 8] r218_4) (.block 0 (.loop [0, 1, 5, 6, 7, 8] b218_0))) (.seq (.region false 0 [4] r218_14) .ret))))))⟩
/-! loop.example/g00461/spec.l7Top -/
def r219_0 : List VOper := [
  ⟨some 2, .move (.c (.d (.int .i64 0))), none, []⟩]
def r219_1 : List VOper := [
  ⟨some 3, .move (.c (.d (.int .i64 0))), none, []⟩]
def r219_2 : List VOper := [
  ⟨some 4, .move (.c (.d (.int .i64 0))), none, []⟩]
def r219_3 : List VOper := [
  ⟨some 5, .move (.t 4), none, []⟩,
  ⟨some 6, .move (.t 0), none, []⟩,
  ⟨some 7, .len false (.t 6), none, []⟩,
  ⟨some 8, .bin .lss (.t 5) (.t 7), none, []⟩]
def r219_5 : List VOper := [
  ⟨some 11, .move (.t 3), none, []⟩,
  ⟨some 12, .move (.t 0), none, []⟩,
  ⟨some 13, .move (.t 4), none, []⟩,
  ⟨some 14, .indexAddr 1 none (.t 12) (.t 13), none, []⟩,
  ⟨some 15, .load false 1 (.t 14), none, []⟩,
  ⟨some 16, .call true (.c (.fn 221 [])) [.t 11, .t 15], none, []⟩,
  ⟨some 3, .move (.t 16), none, []⟩]
def r219_4 : List VOper := [
  ⟨some 9, .move (.t 4), none, []⟩,
  ⟨some 10, .bin .add (.t 9) (.c (.d (.int .i64 1))), none, []⟩,
  ⟨some 4, .move (.t 10), none, []⟩]
def b219_0 : VCode := (.seq (.seq (.region false 0 [0, 3, 4, 8] r219_3) (.cond (.t 8) .skip (.exit 0))) (.seq (.block 1 (.region false 0 [0, 3, 4] r219_5)) (.region false 0 [0, 3, 4] r219_4)))
def r219_6 : List VOper := [
  ⟨some 17, .move (.t 3), none, []⟩,
  ⟨some 2, .move (.t 17), none, []⟩]
def v219 : VFn := ⟨1, [.tmp 2], (.seq (.region false 0 [0] r219_0) (.seq (.region false 0 [0, 3] r219_1) (.seq (.seq (.region false 0 [0, 3, 4] r219_2) (.block 0 (.loop [0, 3, 4] b219_0))) (.seq (.region false 0 [2] r219_6) .ret))))⟩
/-! loop.example/g00461/spec.l7Ways -/
def r220_0 : List VOper := [
  ⟨some 4, .move (.c (.d (.sl .nil []))), none, []⟩]
def r220_1 : List VOper := [
  ⟨some 9, .move (.t 0), none, []⟩,
  ⟨some 10, .bin .eql (.t 9) (.c (.d (.int .i64 0))), none, []⟩]
def r220_2 : List VOper := [
  ⟨some 11, .buildSlice 1 (.int .i64 0) 0 [], none, []⟩,
  ⟨some 12, .buildSlice 1 (.sl .nil []) 1 [(0, .t 11)], none, []⟩,
  ⟨some 4, .move (.t 12), none, []⟩]
def r220_3 : List VOper := [
  ⟨some 13, .buildSlice 1 (.sl .nil []) 0 [], none, []⟩,
  ⟨some 5, .move (.t 13), none, []⟩]
def r220_4 : List VOper := [
  ⟨some 6, .move (.c (.d (.int .i64 0))), none, []⟩]
def r220_5 : List VOper := [
  ⟨some 14, .move (.t 6), none, []⟩,
  ⟨some 15, .move (.t 1), none, []⟩,
  ⟨some 16, .bin .leq (.t 14) (.t 15), none, []⟩]
def r220_7 : List VOper := [
  ⟨some 19, .move (.t 0), none, []⟩,
  ⟨some 20, .bin .sub (.t 19) (.c (.d (.int .i64 1))), none, []⟩,
  ⟨some 21, .move (.t 1), none, []⟩,
  ⟨some 22, .move (.t 6), none, []⟩,
  ⟨some 23, .bin .sub (.t 21) (.t 22), none, []⟩,
  ⟨some 24, .call true (.c (.fn 220 [])) [.t 20, .t 23], none, []⟩,
  ⟨some 7, .move (.t 24), none, []⟩]
def r220_8 : List VOper := [
  ⟨some 8, .move (.c (.d (.int .i64 0))), none, []⟩]
def r220_9 : List VOper := [
  ⟨some 25, .move (.t 8), none, []⟩,
  ⟨some 26, .move (.t 7), none, []⟩,
  ⟨some 27, .len false (.t 26), none, []⟩,
  ⟨some 28, .bin .lss (.t 25) (.t 27), none, []⟩]
def r220_11 : List VOper := [
  ⟨some 31, .move (.t 5), none, []⟩,
  ⟨some 32, .move (.t 6), none, []⟩,
  ⟨some 33, .buildSlice 1 (.int .i64 0) 1 [(0, .t 32)], none, []⟩,
  ⟨some 34, .move (.t 7), none, []⟩,
  ⟨some 35, .move (.t 8), none, []⟩,
  ⟨some 36, .indexAddr 1 none (.t 34) (.t 35), none, []⟩,
  ⟨some 37, .load false 1 (.t 36), none, []⟩,
  ⟨some 38, .append 1 8 (.t 33) (.t 37), none, []⟩,
  ⟨some 39, .buildSlice 1 (.sl .nil []) 1 [(0, .t 38)], none, []⟩,
  ⟨some 40, .append 1 24 (.t 31) (.t 39), none, []⟩,
  ⟨some 5, .move (.t 40), none, []⟩]
def r220_10 : List VOper := [
  ⟨some 29, .move (.t 8), none, []⟩,
  ⟨some 30, .bin .add (.t 29) (.c (.d (.int .i64 1))), none, []⟩,
  ⟨some 8, .move (.t 30), none, []⟩]
def b220_1 : VCode := (.seq (.seq (.region false 0 [0, 1, 5, 6, 7, 8, 28] r220_9) (.cond (.t 28) .skip (.exit 2))) (.seq (.block 3 (.region false 0 [0, 1, 5, 6, 7, 8] r220_11)) (.region false 0 [0, 1, 5, 6, 7, 8] r220_10)))
def r220_6 : List VOper := [
  ⟨some 17, .move (.t 6), none, []⟩,
  ⟨some 18, .bin .add (.t 17) (.c (.d (.int .i64 1))), none, []⟩,
  ⟨some 6, .move (.t 18), none, []⟩]
def b220_0 : VCode := (.seq (.seq (.region false 0 [0, 1, 5, 6, 16] r220_5) (.cond (.t 16) .skip (.exit 0))) (.seq (.block 1 (.seq (.region false 0 [0, 1, 5, 6, 7] r220_7) (.seq (.region false 0 [0, 1, 5, 6, 7, 8] r220_8) (.block 2 (.loop [0, 1, 5, 6, 7, 8] b220_1))))) (.region false 0 [0, 1, 5, 6] r220_6)))
def r220_12 : List VOper := [
  ⟨some 41, .move (.t 5), none, []⟩,
  ⟨some 4, .move (.t 41), none, []⟩]
def v220 : VFn := ⟨2, [.tmp 4], (.seq (.region false 0 [0, 1] r220_0) (.seq (.seq (.region false 0 [0, 1, 10] r220_1) (.cond (.t 10) (.seq (.region false 0 [4] r220_2) .ret) .skip)) (.seq (.region false 0 [0, 1, 5] r220_3) (.seq (.seq (.region false 0 [0, 1, 5, 6] r220_4) (.block 0 (.loop [0, 1, 5, 6] b220_0))) (.seq (.region false 0 [4] r220_12) .ret)))))⟩
/-! loop.example/g00461/spec.l1Max -/
def r221_0 : List VOper := [
  ⟨some 4, .move (.c (.d (.int .i64 0))), none, []⟩]
def r221_1 : List VOper := [
  ⟨some 5, .move (.t 0), none, []⟩,
  ⟨some 6, .move (.t 1), none, []⟩,
  ⟨some 7, .bin .gtr (.t 5) (.t 6), none, []⟩]
def r221_2 : List VOper := [
  ⟨some 8, .move (.t 0), none, []⟩,
  ⟨some 4, .move (.t 8), none, []⟩]
def r221_3 : List VOper := [
  ⟨some 9, .move (.t 1), none, []⟩,
  ⟨some 4, .move (.t 9), none, []⟩]
def v221 : VFn := ⟨2, [.tmp 4], (.seq (.region false 0 [0, 1] r221_0) (.seq (.seq (.region false 0 [0, 1, 7] r221_1) (.cond (.t 7) (.seq (.region false 0 [4] r221_2) .ret) .skip)) (.seq (.region false 0 [4] r221_3) .ret)))⟩
/-! loop.example/g00461/impl.smallNumbers -/
def r222_0 : List VOper := [
  ⟨some 2, .move (.c (.d (.bool false))), none, []⟩]
def r222_1 : List VOper := [
  ⟨some 3, .move (.t 0), none, []⟩,
  ⟨some 4, .len false (.t 3), none, []⟩,
  ⟨some 5, .call true (.c (.fn 30 [])) [.t 4, .c (.d (.int .i64 1)), .c (.d (.int .i64 5))], none, []⟩,
  ⟨some 6, .move (.t 5), none, []⟩,
  ⟨some 7, .move (.t 0), some (6, true), []⟩,
  ⟨some 8, .call false (.c (.fn 45 [])) [.t 7, .c (.fn 230 [])], some (6, true), []⟩,
  ⟨some 9, .not (.t 8), some (6, true), []⟩,
  ⟨some 10, .pick (.t 6) (.t 9) (.c (.d (.bool false))), none, []⟩,
  ⟨some 2, .move (.t 10), none, []⟩]
def v222 : VFn := ⟨1, [.tmp 2], (.seq (.region false 0 [0] r222_0) (.seq (.region false 0 [2] r222_1) .ret))⟩
/-! slices.Max[[]int,int] -/
def r223_0 : List VOper := [
  ⟨some 2, .move (.c (.d (.int .i64 0))), none, []⟩]
def r223_1 : List VOper := [
  ⟨some 5, .move (.t 0), none, []⟩,
  ⟨some 6, .len false (.t 5), none, []⟩,
  ⟨some 7, .bin .lss (.t 6) (.c (.d (.int .i64 1))), none, []⟩]
def r223_2 : List VOper := [
  ⟨some 8, .fail, none, []⟩,
  ⟨none, .fail, none, []⟩]
def r223_3 : List VOper := [
  ⟨some 9, .move (.t 0), none, []⟩,
  ⟨some 10, .indexAddr 1 none (.t 9) (.c (.d (.int .i64 0))), none, []⟩,
  ⟨some 11, .load false 1 (.t 10), none, []⟩,
  ⟨some 3, .move (.t 11), none, []⟩]
def r223_4 : List VOper := [
  ⟨some 4, .move (.c (.d (.int .i64 1))), none, []⟩]
def r223_5 : List VOper := [
  ⟨some 12, .move (.t 4), none, []⟩,
  ⟨some 13, .move (.t 0), none, []⟩,
  ⟨some 14, .len false (.t 13), none, []⟩,
  ⟨some 15, .bin .lss (.t 12) (.t 14), none, []⟩]
def r223_7 : List VOper := [
  ⟨some 18, .move (.t 3), none, []⟩,
  ⟨some 19, .move (.t 0), none, []⟩,
  ⟨some 20, .move (.t 4), none, []⟩,
  ⟨some 21, .indexAddr 1 none (.t 19) (.t 20), none, []⟩,
  ⟨some 22, .load false 1 (.t 21), none, []⟩,
  ⟨some 23, .max (.t 18) (.t 22), none, []⟩,
  ⟨some 3, .move (.t 23), none, []⟩]
def r223_6 : List VOper := [
  ⟨some 16, .move (.t 4), none, []⟩,
  ⟨some 17, .bin .add (.t 16) (.c (.d (.int .i64 1))), none, []⟩,
  ⟨some 4, .move (.t 17), none, []⟩]
def b223_0 : VCode := (.seq (.seq (.region false 0 [0, 3, 4, 15] r223_5) (.cond (.t 15) .skip (.exit 0))) (.seq (.block 1 (.region false 0 [0, 3, 4] r223_7)) (.region false 0 [0, 3, 4] r223_6)))
def r223_8 : List VOper := [
  ⟨some 24, .move (.t 3), none, []⟩,
  ⟨some 2, .move (.t 24), none, []⟩]
def v223 : VFn := ⟨1, [.tmp 2], (.seq (.region false 0 [0] r223_0) (.seq (.seq (.region false 0 [0, 7] r223_1) (.cond (.t 7) (.region false 0 [0] r223_2) .skip)) (.seq (.region false 0 [0, 3] r223_3) (.seq (.seq (.region false 0 [0, 3, 4] r223_4) (.block 0 (.loop [0, 3, 4] b223_0))) (.seq (.region false 0 [2] r223_8) .ret)))))⟩
/-! loop.example/g00461/impl.sums -/
def r224_0 : List VOper := [
  ⟨some 4, .move (.c (.d (.sl .nil []))), none, []⟩]
def r224_1 : List VOper := [
  ⟨some 9, .move (.t 0), none, []⟩,
  ⟨some 10, .bin .eql (.t 9) (.c (.d (.int .i64 0))), none, []⟩]
def r224_2 : List VOper := [
  ⟨some 11, .buildSlice 1 (.int .i64 0) 0 [], none, []⟩,
  ⟨some 12, .buildSlice 1 (.sl .nil []) 1 [(0, .t 11)], none, []⟩,
  ⟨some 4, .move (.t 12), none, []⟩]
def r224_3 : List VOper := [
  ⟨some 13, .buildSlice 1 (.sl .nil []) 0 [], none, []⟩,
  ⟨some 5, .move (.t 13), none, []⟩]
def r224_4 : List VOper := [
  ⟨some 6, .move (.c (.d (.int .i64 0))), none, []⟩]
def r224_5 : List VOper := [
  ⟨some 14, .move (.t 6), none, []⟩,
  ⟨some 15, .move (.t 1), none, []⟩,
  ⟨some 16, .bin .leq (.t 14) (.t 15), none, []⟩]
def r224_7 : List VOper := [
  ⟨some 19, .move (.t 0), none, []⟩,
  ⟨some 20, .bin .sub (.t 19) (.c (.d (.int .i64 1))), none, []⟩,
  ⟨some 21, .move (.t 1), none, []⟩,
  ⟨some 22, .move (.t 6), none, []⟩,
  ⟨some 23, .bin .sub (.t 21) (.t 22), none, []⟩,
  ⟨some 24, .call true (.c (.fn 224 [])) [.t 20, .t 23], none, []⟩,
  ⟨some 25, .len false (.t 24), none, []⟩,
  ⟨some 26, .move (.c (.d (.int .i64 0))), none, []⟩]
def r224_8 : List VOper := [
  ⟨some 27, .bin .lss (.t 26) (.t 25), none, []⟩]
def r224_9 : List VOper := [
  ⟨some 28, .indexAddr 1 none (.t 24) (.t 26), none, []⟩,
  ⟨some 29, .load false 1 (.t 28), none, []⟩,
  ⟨some 8, .move (.t 29), none, []⟩]
def r224_10 : List VOper := [
  ⟨some 30, .move (.t 5), none, []⟩,
  ⟨some 31, .move (.t 6), none, []⟩,
  ⟨some 32, .buildSlice 1 (.int .i64 0) 1 [(0, .t 31)], none, []⟩,
  ⟨some 33, .move (.t 8), none, []⟩,
  ⟨some 34, .append 1 8 (.t 32) (.t 33), none, []⟩,
  ⟨some 35, .buildSlice 1 (.sl .nil []) 1 [(0, .t 34)], none, []⟩,
  ⟨some 36, .append 1 24 (.t 30) (.t 35), none, []⟩,
  ⟨some 5, .move (.t 36), none, []⟩]
def r224_11 : List VOper := [
  ⟨some 37, .bin .add (.t 26) (.c (.d (.int .i64 1))), none, []⟩,
  ⟨some 26, .move (.t 37), none, []⟩]
def b224_1 : VCode := (.seq (.region false 0 [0, 1, 5, 6, 24, 25, 26, 27] r224_8) (.seq (.cond (.t 27) .skip (.exit 2)) (.seq (.block 3 (.seq (.region false 0 [0, 1, 5, 6, 8, 24, 25, 26] r224_9) (.region false 0 [0, 1, 5, 6, 24, 25, 26] r224_10))) (.region false 0 [0, 1, 5, 6, 24, 25, 26] r224_11))))
def r224_6 : List VOper := [
  ⟨some 17, .move (.t 6), none, []⟩,
  ⟨some 18, .bin .add (.t 17) (.c (.d (.int .i64 1))), none, []⟩,
  ⟨some 6, .move (.t 18), none, []⟩]
def b224_0 : VCode := (.seq (.seq (.region false 0 [0, 1, 5, 6, 16] r224_5) (.cond (.t 16) .skip (.exit 0))) (.seq (.block 1 (.seq (.region false 0 [0, 1, 5, 6, 24, 25, 26] r224_7) (.block 2 (.loop [0, 1, 5, 6, 24, 25, 26] b224_1)))) (.region false 0 [0, 1, 5, 6] r224_6)))
def r224_12 : List VOper := [
  ⟨some 38, .move (.t 5), none, []⟩,
  ⟨some 4, .move (.t 38), none, []⟩]
def v224 : VFn := ⟨2, [.tmp 4], (.seq (.region false 0 [0, 1] r224_0) (.seq (.seq (.region false 0 [0, 1, 10] r224_1) (.cond (.t 10) (.seq (.region false 0 [4] r224_2) .ret) .skip)) (.seq (.region false 0 [0, 1, 5] r224_3) (.seq (.seq (.region false 0 [0, 1, 5, 6] r224_4) (.block 0 (.loop [0, 1, 5, 6] b224_0))) (.seq (.region false 0 [4] r224_12) .ret)))))⟩
/-! loop.example/g00461/impl.Basis$1 -/
def r226_0 : List VOper := [
  ⟨some 3, .move (.c (.d (.bool false))), none, []⟩]
def r226_1 : List VOper := [
  ⟨some 4, .move (.t 0), none, []⟩,
  ⟨some 5, .load false 1 (.t 1), none, []⟩,
  ⟨some 6, .call true (.c (.fn 51 [])) [.t 4, .t 5], none, []⟩,
  ⟨some 3, .move (.t 6), none, []⟩]
def v226 : VFn := ⟨2, [.tmp 3], (.seq (.region false 0 [0, 1] r226_0) (.seq (.region false 0 [3] r226_1) .ret))⟩
/-! slices.ContainsFunc[[][]int,[]int] -/
def r227_0 : List VOper := [
  ⟨some 4, .move (.c (.d (.bool false))), none, []⟩]
def r227_1 : List VOper := [
  ⟨some 5, .move (.t 0), none, []⟩,
  ⟨some 6, .move (.t 1), none, []⟩,
  ⟨some 7, .call false (.c (.fn 228 [])) [.t 5, .t 6], none, []⟩,
  ⟨some 8, .bin .geq (.t 7) (.c (.d (.int .i64 0))), none, []⟩,
  ⟨some 4, .move (.t 8), none, []⟩]
def v227 : VFn := ⟨2, [.tmp 4], (.seq (.region false 0 [0, 1] r227_0) (.seq (.region false 0 [4] r227_1) .ret))⟩
/-! slices.IndexFunc[[][]int,[]int] -/
def r228_0 : List VOper := [
  ⟨some 4, .move (.c (.d (.int .i64 0))), none, []⟩]
def r228_1 : List VOper := [
  ⟨some 6, .move (.t 0), none, []⟩,
  ⟨some 7, .len false (.t 6), none, []⟩,
  ⟨some 8, .move (.c (.d (.int .i64 0))), none, []⟩]
def r228_2 : List VOper := [
  ⟨some 9, .bin .lss (.t 8) (.t 7), none, []⟩]
def r228_3 : List VOper := [
  ⟨some 10, .move (.t 8), none, []⟩,
  ⟨some 5, .move (.t 10), none, []⟩]
def r228_4 : List VOper := [
  ⟨some 11, .move (.t 1), none, []⟩,
  ⟨some 12, .move (.t 0), none, []⟩,
  ⟨some 13, .move (.t 5), none, []⟩,
  ⟨some 14, .indexAddr 1 none (.t 12) (.t 13), none, []⟩,
  ⟨some 15, .load false 1 (.t 14), none, []⟩,
  ⟨some 16, .call false (.t 11) [.t 15], none, []⟩]
def r228_5 : List VOper := [
  ⟨some 17, .move (.t 5), none, []⟩,
  ⟨some 4, .move (.t 17), none, []⟩]
def r228_6 : List VOper := [
  ⟨some 18, .bin .add (.t 8) (.c (.d (.int .i64 1))), none, []⟩,
  ⟨some 8, .move (.t 18), none, []⟩]
def b228_0 : VCode := (.seq (.region false 0 [0, 1, 7, 8, 9] r228_2) (.seq (.cond (.t 9) .skip (.exit 0)) (.seq (.block 1 (.seq (.region false 0 [0, 1, 5, 7, 8] r228_3) (.seq (.region false 0 [0, 1, 5, 7, 8, 16] r228_4) (.cond (.t 16) (.seq (.region false 0 [4] r228_5) .ret) .skip)))) (.region false 0 [0, 1, 7, 8] r228_6))))
def r228_7 : List VOper := [
  ⟨some 4, .move (.c (.d (.int .i64 (-1)))), none, []⟩]
def v228 : VFn := ⟨2, [.tmp 4], (.seq (.region false 0 [0, 1] r228_0) (.seq (.seq (.region false 0 [0, 1, 7, 8] r228_1) (.block 0 (.loop [0, 1, 7, 8] b228_0))) (.seq (.region false 0 [4] r228_7) .ret)))⟩
/-! loop.example/g00461/impl.smallNumbers$1 -/
def r230_0 : List VOper := [
  ⟨some 2, .move (.c (.d (.bool false))), none, []⟩]
def r230_1 : List VOper := [
  ⟨some 3, .move (.t 0), none, []⟩,
  ⟨some 4, .call true (.c (.fn 30 [])) [.t 3, .c (.d (.int .i64 1)), .c (.d (.int .i64 4))], none, []⟩,
  ⟨some 5, .not (.t 4), none, []⟩,
  ⟨some 2, .move (.t 5), none, []⟩]
def v230 : VFn := ⟨1, [.tmp 2], (.seq (.region false 0 [0] r230_0) (.seq (.region false 0 [2] r230_1) .ret))⟩
/-! loop.example/g00461/laws.markIntS -/
def r344_0 : List VOper := [
  ⟨some 4, .move (.c (.d (.int .i64 0))), none, []⟩]
def r344_1 : List VOper := [
  ⟨some 5, .move (.c (.d (.int .i64 0))), none, []⟩]
def r344_2 : List VOper := [
  ⟨some 6, .move (.t 5), none, []⟩,
  ⟨some 7, .move (.t 0), none, []⟩,
  ⟨some 8, .len false (.t 7), none, []⟩,
  ⟨some 9, .bin .lss (.t 6) (.t 8), none, []⟩]
def r344_4 : List VOper := [
  ⟨some 12, .move (.t 0), none, []⟩,
  ⟨some 13, .move (.t 5), none, []⟩,
  ⟨some 14, .move (.t 1), none, []⟩,
  ⟨some 15, .indexAddr 1 none (.t 12) (.t 13), none, []⟩,
  ⟨none, .store false 1 (.t 15) (.t 14), none, []⟩]
def r344_5 : List VOper := [
  ⟨some 16, .move (.t 1), none, []⟩,
  ⟨some 17, .bin .add (.t 16) (.c (.d (.int .i64 1))), none, []⟩,
  ⟨some 1, .move (.t 17), none, []⟩]
def r344_3 : List VOper := [
  ⟨some 10, .move (.t 5), none, []⟩,
  ⟨some 11, .bin .add (.t 10) (.c (.d (.int .i64 1))), none, []⟩,
  ⟨some 5, .move (.t 11), none, []⟩]
def b344_0 : VCode := (.seq (.seq (.region false 0 [0, 1, 5, 9] r344_2) (.cond (.t 9) .skip (.exit 0))) (.seq (.block 1 (.seq (.region false 0 [0, 1, 5] r344_4) (.region false 0 [0, 1, 5] r344_5))) (.region false 0 [0, 1, 5] r344_3)))
def r344_6 : List VOper := [
  ⟨some 18, .move (.t 1), none, []⟩,
  ⟨some 4, .move (.t 18), none, []⟩]
def v344 : VFn := ⟨2, [.tmp 4], (.seq (.region false 0 [0, 1] r344_0) (.seq (.seq (.region false 0 [0, 1, 5] r344_1) (.block 0 (.loop [0, 1, 5] b344_0))) (.seq (.region false 0 [4] r344_6) .ret)))⟩
/-! loop.example/g00461/laws.heldIntS -/
def r345_0 : List VOper := [
  ⟨some 4, .move (.c (.d (.int .i64 0))), none, []⟩]
def r345_1 : List VOper := [
  ⟨some 5, .move (.c (.d (.int .i64 0))), none, []⟩]
def r345_2 : List VOper := [
  ⟨some 6, .move (.t 5), none, []⟩,
  ⟨some 7, .move (.t 0), none, []⟩,
  ⟨some 8, .len false (.t 7), none, []⟩,
  ⟨some 9, .bin .lss (.t 6) (.t 8), none, []⟩]
def r345_4 : List VOper := [
  ⟨some 12, .move (.t 0), none, []⟩,
  ⟨some 13, .move (.t 5), none, []⟩,
  ⟨some 14, .indexAddr 1 none (.t 12) (.t 13), none, []⟩,
  ⟨some 15, .load false 1 (.t 14), none, []⟩,
  ⟨some 16, .move (.t 1), none, []⟩,
  ⟨some 17, .bin .neq (.t 15) (.t 16), none, []⟩]
def r345_5 : List VOper := [
  ⟨some 4, .move (.c (.d (.int .i64 (-1)))), none, []⟩]
def r345_6 : List VOper := [
  ⟨some 18, .move (.t 1), none, []⟩,
  ⟨some 19, .bin .add (.t 18) (.c (.d (.int .i64 1))), none, []⟩,
  ⟨some 1, .move (.t 19), none, []⟩]
def r345_3 : List VOper := [
  ⟨some 10, .move (.t 5), none, []⟩,
  ⟨some 11, .bin .add (.t 10) (.c (.d (.int .i64 1))), none, []⟩,
  ⟨some 5, .move (.t 11), none, []⟩]
def b345_0 : VCode := (.seq (.seq (.region false 0 [0, 1, 5, 9] r345_2) (.cond (.t 9) .skip (.exit 0))) (.seq (.block 1 (.seq (.seq (.region false 0 [0, 1, 5, 17] r345_4) (.cond (.t 17) (.seq (.region false 0 [4] r345_5) .ret) .skip)) (.region false 0 [0, 1, 5] r345_6))) (.region false 0 [0, 1, 5] r345_3)))
def r345_7 : List VOper := [
  ⟨some 20, .move (.t 1), none, []⟩,
  ⟨some 4, .move (.t 20), none, []⟩]
def v345 : VFn := ⟨2, [.tmp 4], (.seq (.region false 0 [0, 1] r345_0) (.seq (.seq (.region false 0 [0, 1, 5] r345_1) (.block 0 (.loop [0, 1, 5] b345_0))) (.seq (.region false 0 [4] r345_7) .ret)))⟩
/-! loop.example/g00461/laws.eqIntSS -/
def r351_0 : List VOper := [
  ⟨some 4, .move (.c (.d (.bool false))), none, []⟩]
def r351_1 : List VOper := [
  ⟨some 6, .move (.t 0), none, []⟩,
  ⟨some 7, .len false (.t 6), none, []⟩,
  ⟨some 8, .move (.t 1), none, []⟩,
  ⟨some 9, .len false (.t 8), none, []⟩,
  ⟨some 10, .bin .neq (.t 7) (.t 9), none, []⟩]
def r351_2 : List VOper := [
  ⟨some 4, .move (.c (.d (.bool false))), none, []⟩]
def r351_3 : List VOper := [
  ⟨some 5, .move (.c (.d (.int .i64 0))), none, []⟩]
def r351_4 : List VOper := [
  ⟨some 11, .move (.t 5), none, []⟩,
  ⟨some 12, .move (.t 0), none, []⟩,
  ⟨some 13, .len false (.t 12), none, []⟩,
  ⟨some 14, .bin .lss (.t 11) (.t 13), none, []⟩]
def r351_6 : List VOper := [
  ⟨some 17, .move (.t 0), none, []⟩,
  ⟨some 18, .move (.t 5), none, []⟩,
  ⟨some 19, .indexAddr 1 none (.t 17) (.t 18), none, [0, 1]⟩,
  ⟨some 20, .load false 1 (.t 19), none, [2]⟩,
  ⟨some 21, .move (.t 1), none, []⟩,
  ⟨some 22, .move (.t 5), none, []⟩,
  ⟨some 23, .indexAddr 1 none (.t 21) (.t 22), none, [4, 5]⟩,
  ⟨some 24, .load false 1 (.t 23), none, [6]⟩,
  ⟨some 25, .call true (.c (.fn 44 [])) [.t 20, .t 24], none, [3, 7]⟩,
  ⟨some 26, .not (.t 25), none, [8]⟩]
def r351_7 : List VOper := [
  ⟨some 4, .move (.c (.d (.bool false))), none, []⟩]
def r351_5 : List VOper := [
  ⟨some 15, .move (.t 5), none, []⟩,
  ⟨some 16, .bin .add (.t 15) (.c (.d (.int .i64 1))), none, []⟩,
  ⟨some 5, .move (.t 16), none, []⟩]
def b351_0 : VCode := (.seq (.seq (.region false 0 [0, 1, 5, 14] r351_4) (.cond (.t 14) .skip (.exit 0))) (.seq (.block 1 (.seq (.region true 0 [0, 1, 5, 26] r351_6) (.cond (.t 26) (.seq (.region false 0 [4] r351_7) .ret) .skip))) (.region false 0 [0, 1, 5] r351_5)))
def r351_8 : List VOper := [
  ⟨some 4, .move (.c (.d (.bool true))), none, []⟩]
def v351 : VFn := ⟨2, [.tmp 4], (.seq (.region false 0 [0, 1] r351_0) (.seq (.seq (.region false 0 [0, 1, 10] r351_1) (.cond (.t 10) (.seq (.region false 0 [4] r351_2) .ret) .skip)) (.seq (.seq (.region false 0 [0, 1, 5] r351_3) (.block 0 (.loop [0, 1, 5] b351_0))) (.seq (.region false 0 [4] r351_8) .ret))))⟩
/-! loop.example/g00461/laws.markIntSS -/
def r352_0 : List VOper := [
  ⟨some 4, .move (.c (.d (.int .i64 0))), none, []⟩]
def r352_1 : List VOper := [
  ⟨some 5, .move (.c (.d (.int .i64 0))), none, []⟩]
def r352_2 : List VOper := [
  ⟨some 6, .move (.t 5), none, []⟩,
  ⟨some 7, .move (.t 0), none, []⟩,
  ⟨some 8, .len false (.t 7), none, []⟩,
  ⟨some 9, .bin .lss (.t 6) (.t 8), none, []⟩]
def r352_4 : List VOper := [
  ⟨some 12, .move (.t 0), none, []⟩,
  ⟨some 13, .move (.t 5), none, []⟩,
  ⟨some 14, .indexAddr 1 none (.t 12) (.t 13), none, []⟩,
  ⟨some 15, .load false 1 (.t 14), none, []⟩,
  ⟨some 16, .move (.t 1), none, []⟩,
  ⟨some 17, .call false (.c (.fn 344 [])) [.t 15, .t 16], none, []⟩,
  ⟨some 1, .move (.t 17), none, []⟩]
def r352_3 : List VOper := [
  ⟨some 10, .move (.t 5), none, []⟩,
  ⟨some 11, .bin .add (.t 10) (.c (.d (.int .i64 1))), none, []⟩,
  ⟨some 5, .move (.t 11), none, []⟩]
def b352_0 : VCode := (.seq (.seq (.region false 0 [0, 1, 5, 9] r352_2) (.cond (.t 9) .skip (.exit 0))) (.seq (.block 1 (.region false 0 [0, 1, 5] r352_4)) (.region false 0 [0, 1, 5] r352_3)))
def r352_5 : List VOper := [
  ⟨some 18, .move (.t 1), none, []⟩,
  ⟨some 4, .move (.t 18), none, []⟩]
def v352 : VFn := ⟨2, [.tmp 4], (.seq (.region false 0 [0, 1] r352_0) (.seq (.seq (.region false 0 [0, 1, 5] r352_1) (.block 0 (.loop [0, 1, 5] b352_0))) (.seq (.region false 0 [4] r352_5) .ret)))⟩
/-! loop.example/g00461/laws.FnExactBasis -/
def r355_0 : List VOper := [
  ⟨some 4, .move (.c (.d (.bool false))), none, []⟩]
def r355_1 : List VOper := [
  ⟨some 16, .move (.t 0), none, []⟩,
  ⟨some 17, .len false (.t 16), none, []⟩,
  ⟨some 18, .bin .gtr (.t 17) (.c (.d (.int .i64 1048576))), none, []⟩]
def r355_2 : List VOper := [
  ⟨some 4, .move (.c (.d (.bool true))), none, []⟩]
def r355_3 : List VOper := [
  ⟨some 19, .move (.t 1), none, []⟩,
  ⟨some 20, .len false (.t 19), none, []⟩,
  ⟨some 21, .bin .gtr (.t 20) (.c (.d (.int .i64 1048576))), none, []⟩]
def r355_4 : List VOper := [
  ⟨some 4, .move (.c (.d (.bool true))), none, []⟩]
def r355_5 : List VOper := [
  ⟨some 23, .move (.t 0), none, []⟩,
  ⟨some 24, .call true (.c (.fn 41 [])) [.t 23], none, []⟩,
  ⟨some 25, .move (.t 1), none, []⟩,
  ⟨some 26, .call true (.c (.fn 41 [])) [.t 25], none, []⟩,
  ⟨some 27, .call true (.c (.fn 208 [])) [.t 24, .t 26], none, []⟩,
  ⟨some 22, .move (.t 27), none, []⟩,
  ⟨some 28, .extract (.t 22) 0, none, []⟩,
  ⟨some 29, .extract (.t 22) 1, none, []⟩,
  ⟨some 5, .move (.t 28), none, []⟩,
  ⟨some 6, .move (.t 29), none, []⟩]
def r355_6 : List VOper := [
  ⟨some 30, .move (.t 0), none, []⟩,
  ⟨some 31, .callT true (.c (.fn 41 [])) [.t 30], none, []⟩,
  ⟨some 7, .move (.t 31), none, []⟩]
def r355_7 : List VOper := [
  ⟨some 32, .move (.t 1), none, []⟩,
  ⟨some 33, .callT true (.c (.fn 41 [])) [.t 32], none, []⟩,
  ⟨some 8, .move (.t 33), none, []⟩]
def r355_8 : List VOper := [
  ⟨some 35, .move (.t 7), none, []⟩,
  ⟨some 36, .move (.t 8), none, []⟩,
  ⟨some 37, .callT true (.c (.fn 207 [])) [.t 35, .t 36], none, []⟩,
  ⟨some 34, .move (.t 37), none, []⟩,
  ⟨some 38, .extract (.t 34) 0, none, []⟩,
  ⟨some 39, .extract (.t 34) 1, none, []⟩,
  ⟨some 9, .move (.t 38), none, []⟩,
  ⟨some 10, .move (.t 39), none, []⟩]
def r355_9 : List VOper := [
  ⟨some 40, .move (.t 9), none, []⟩,
  ⟨some 41, .move (.t 5), none, []⟩,
  ⟨some 42, .callT false (.c (.fn 351 [])) [.t 40, .t 41], none, []⟩,
  ⟨some 43, .not (.t 42), none, []⟩,
  ⟨some 44, .move (.t 43), none, []⟩,
  ⟨some 45, .move (.t 10), some (44, false), []⟩,
  ⟨some 46, .move (.t 6), some (44, false), []⟩,
  ⟨some 47, .eqB true (.t 45) (.t 46), some (44, false), []⟩,
  ⟨some 48, .pick (.t 44) (.c (.d (.bool true))) (.t 47), none, []⟩]
def r355_10 : List VOper := [
  ⟨some 4, .move (.c (.d (.bool false))), none, []⟩]
def r355_11 : List VOper := [
  ⟨some 49, .move (.t 7), none, []⟩,
  ⟨some 50, .move (.t 0), none, []⟩,
  ⟨some 51, .call true (.c (.fn 41 [])) [.t 50], none, []⟩,
  ⟨some 52, .callT false (.c (.fn 44 [])) [.t 49, .t 51], none, []⟩,
  ⟨some 53, .not (.t 52), none, []⟩]
def r355_12 : List VOper := [
  ⟨some 4, .move (.c (.d (.bool false))), none, []⟩]
def r355_13 : List VOper := [
  ⟨some 54, .move (.t 8), none, []⟩,
  ⟨some 55, .move (.t 1), none, []⟩,
  ⟨some 56, .call true (.c (.fn 41 [])) [.t 55], none, []⟩,
  ⟨some 57, .callT false (.c (.fn 44 [])) [.t 54, .t 56], none, []⟩,
  ⟨some 58, .not (.t 57), none, []⟩]
def r355_14 : List VOper := [
  ⟨some 4, .move (.c (.d (.bool false))), none, []⟩]
def r355_15 : List VOper := [
  ⟨some 11, .move (.c (.d (.int .i64 1))), none, []⟩]
def r355_16 : List VOper := [
  ⟨some 59, .move (.t 7), none, []⟩,
  ⟨some 60, .move (.t 11), none, []⟩,
  ⟨some 61, .call false (.c (.fn 344 [])) [.t 59, .t 60], none, []⟩,
  ⟨some 11, .move (.t 61), none, []⟩]
def r355_17 : List VOper := [
  ⟨some 62, .move (.t 8), none, []⟩,
  ⟨some 63, .move (.t 11), none, []⟩,
  ⟨some 64, .call false (.c (.fn 344 [])) [.t 62, .t 63], none, []⟩,
  ⟨some 11, .move (.t 64), none, []⟩]
def r355_18 : List VOper := [
  ⟨some 65, .move (.t 11), none, []⟩,
  ⟨some 66, .bin .lss (.t 65) (.c (.d (.int .i64 0))), none, []⟩,
  ⟨some 67, .move (.t 66), none, []⟩,
  ⟨some 68, .move (.t 9), some (67, false), []⟩,
  ⟨some 69, .move (.t 5), some (67, false), []⟩,
  ⟨some 70, .callT false (.c (.fn 351 [])) [.t 68, .t 69], some (67, false), []⟩,
  ⟨some 71, .not (.t 70), some (67, false), []⟩,
  ⟨some 72, .pick (.t 67) (.c (.d (.bool true))) (.t 71), none, []⟩,
  ⟨some 73, .move (.t 72), none, []⟩,
  ⟨some 74, .move (.t 10), some (73, false), []⟩,
  ⟨some 75, .move (.t 6), some (73, false), []⟩,
  ⟨some 76, .eqB true (.t 74) (.t 75), some (73, false), []⟩,
  ⟨some 77, .pick (.t 73) (.c (.d (.bool true))) (.t 76), none, []⟩]
def r355_19 : List VOper := [
  ⟨some 4, .move (.c (.d (.bool false))), none, []⟩]
def r355_20 : List VOper := [
  ⟨some 12, .move (.c (.d (.int .i64 1))), none, []⟩]
def r355_21 : List VOper := [
  ⟨some 78, .move (.t 9), none, []⟩,
  ⟨some 79, .move (.t 12), none, []⟩,
  ⟨some 80, .call false (.c (.fn 352 [])) [.t 78, .t 79], none, []⟩,
  ⟨some 12, .move (.t 80), none, []⟩]
def r355_22 : List VOper := [
  ⟨some 13, .move (.c (.d (.int .i64 1))), none, []⟩]
def r355_23 : List VOper := [
  ⟨some 81, .move (.t 9), none, []⟩,
  ⟨some 82, .move (.t 13), none, []⟩,
  ⟨some 83, .call false (.c (.fn 356 [])) [.t 81, .t 82], none, []⟩,
  ⟨some 13, .move (.t 83), none, []⟩]
def r355_24 : List VOper := [
  ⟨some 84, .move (.t 13), none, []⟩,
  ⟨some 85, .bin .lss (.t 84) (.c (.d (.int .i64 0))), none, []⟩]
def r355_25 : List VOper := [
  ⟨some 4, .move (.c (.d (.bool false))), none, []⟩]
def r355_26 : List VOper := [
  ⟨some 86, .move (.t 13), none, []⟩,
  ⟨some 87, .move (.t 12), none, []⟩,
  ⟨some 88, .bin .neq (.t 86) (.t 87), none, []⟩]
def r355_27 : List VOper := [
  ⟨some 4, .move (.c (.d (.bool false))), none, []⟩]
def r355_28 : List VOper := [
  ⟨some 90, .move (.t 0), none, []⟩,
  ⟨some 91, .call true (.c (.fn 41 [])) [.t 90], none, []⟩,
  ⟨some 92, .move (.t 1), none, []⟩,
  ⟨some 93, .call true (.c (.fn 41 [])) [.t 92], none, []⟩,
  ⟨some 94, .call true (.c (.fn 207 [])) [.t 91, .t 93], none, []⟩,
  ⟨some 89, .move (.t 94), none, []⟩,
  ⟨some 95, .extract (.t 89) 0, none, []⟩,
  ⟨some 96, .extract (.t 89) 1, none, []⟩,
  ⟨some 14, .move (.t 95), none, []⟩,
  ⟨some 15, .move (.t 96), none, []⟩]
def r355_29 : List VOper := [
  ⟨some 97, .move (.t 14), none, []⟩,
  ⟨some 98, .move (.t 5), none, []⟩,
  ⟨some 99, .call true (.c (.fn 351 [])) [.t 97, .t 98], none, []⟩,
  ⟨some 100, .not (.t 99), none, []⟩,
  ⟨some 101, .move (.t 100), none, []⟩,
  ⟨some 102, .move (.t 15), some (101, false), []⟩,
  ⟨some 103, .move (.t 6), some (101, false), []⟩,
  ⟨some 104, .eqB true (.t 102) (.t 103), some (101, false), []⟩,
  ⟨some 105, .pick (.t 101) (.c (.d (.bool true))) (.t 104), none, []⟩]
def r355_30 : List VOper := [
  ⟨some 4, .move (.c (.d (.bool false))), none, []⟩]
def r355_31 : List VOper := [
  ⟨some 13, .move (.c (.d (.int .i64 1))), none, []⟩]
def r355_32 : List VOper := [
  ⟨some 106, .move (.t 9), none, []⟩,
  ⟨some 107, .move (.t 13), none, []⟩,
  ⟨some 108, .call false (.c (.fn 356 [])) [.t 106, .t 107], none, []⟩,
  ⟨some 13, .move (.t 108), none, []⟩]
def r355_33 : List VOper := [
  ⟨some 109, .move (.t 13), none, []⟩,
  ⟨some 110, .bin .lss (.t 109) (.c (.d (.int .i64 0))), none, []⟩]
def r355_34 : List VOper := [
  ⟨some 4, .move (.c (.d (.bool false))), none, []⟩]
def r355_35 : List VOper := [
  ⟨some 111, .move (.t 13), none, []⟩,
  ⟨some 112, .move (.t 12), none, []⟩,
  ⟨some 113, .bin .neq (.t 111) (.t 112), none, []⟩]
def r355_36 : List VOper := [
  ⟨some 4, .move (.c (.d (.bool false))), none, []⟩]
def r355_37 : List VOper := [
  ⟨some 4, .move (.c (.d (.bool true))), none, []⟩]
def v355 : VFn := ⟨2, [.tmp 4], (.seq (.region false 0 [0, 1] r355_0) (.seq (.seq (.region false 0 [0, 1, 18] r355_1) (.cond (.t 18) (.seq (.region false 0 [4] r355_2) .ret) .skip)) (.seq (.seq (.region false 0 [0, 1, 21] r355_3) (.cond (.t 21) (.seq (.region false 0 [4] r355_4) .ret) .skip)) (.seq (.region false 0 [0, 1, 5, 6] r355_5) (.seq (.region false 0 [0, 1, 5, 6, 7] r355_6) (.seq (.region false 0 [0, 1, 5, 6, 7, 8] r355_7) (.seq (.region false 0 [0, 1, 5, 6, 7, 8, 9, 10] r355_8) (.seq (.seq (.region false 0 [0, 1, 5, 6, 7, 8, 9, 10, 48] r355_9) (.cond (.t 48) (.seq (.region false 0 [4] r355_10) .ret) .skip)) (.seq (.seq (.region false 0 [0, 1, 5, 6, 7, 8, 9, 10, 53] r355_11) (.cond (.t 53) (.seq (.region false 0 [4] r355_12) .ret) .skip)) (.seq (.seq (.region false 0 [0, 1, 5, 6, 7, 8, 9, 10, 58] r355_13) (.cond (.t 58) (.seq (.region false 0 [4] r355_14) .ret) .skip)) (.seq (.region false 0 [0, 1, 5, 6, 7, 8, 9, 10, 11] r355_15) (.seq (.region false 0 [0, 1, 5, 6, 8, 9, 10, 11] r355_16) (.seq (.region false 0 [0, 1, 5, 6, 9, 10, 11] r355_17) (.seq (.seq (.region false 0 [0, 1, 5, 6, 9, 77] r355_18) (.cond (.t 77) (.seq (.region false 0 [4] r355_19) .ret) .skip)) (.seq (.region false 0 [0, 1, 5, 6, 9, 12] r355_20) (.seq (.region false 0 [0, 1, 5, 6, 9, 12] r355_21) (.seq (.region false 0 [0, 1, 5, 6, 9, 12, 13] r355_22) (.seq (.region false 0 [0, 1, 5, 6, 9, 12, 13] r355_23) (.seq (.seq (.region false 0 [0, 1, 5, 6, 9, 12, 13, 85] r355_24) (.cond (.t 85) (.seq (.region false 0 [4] r355_25) .ret) .skip)) (.seq (.seq (.region false 0 [0, 1, 5, 6, 9, 12, 88] r355_26) (.cond (.t 88) (.seq (.region false 0 [4] r355_27) .ret) .skip)) (.seq (.region false 0 [5, 6, 9, 12, 14, 15] r355_28) (.seq (.seq (.region false 0 [9, 12, 105] r355_29) (.cond (.t 105) (.seq (.region false 0 [4] r355_30) .ret) .skip)) (.seq (.region false 0 [9, 12, 13] r355_31) (.seq (.region false 0 [12, 13] r355_32) (.seq (.seq (.region false 0 [12, 13, 110] r355_33) (.cond (.t 110) (.seq (.region false 0 [4] r355_34) .ret) .skip)) (.seq (.seq (.region false 0 [113] r355_35) (.cond (.t 113) (.seq (.region false 0 [4] r355_36) .ret) .skip)) (.seq (.region false 0 [4] r355_37) .ret)))))))))))))))))))))))))))⟩
/-! loop.example/g00461/laws.heldIntSS -/
def r356_0 : List VOper := [
  ⟨some 4, .move (.c (.d (.int .i64 0))), none, []⟩]
def r356_1 : List VOper := [
  ⟨some 5, .move (.c (.d (.int .i64 0))), none, []⟩]
def r356_2 : List VOper := [
  ⟨some 6, .move (.t 5), none, []⟩,
  ⟨some 7, .move (.t 0), none, []⟩,
  ⟨some 8, .len false (.t 7), none, []⟩,
  ⟨some 9, .bin .lss (.t 6) (.t 8), none, []⟩]
def r356_4 : List VOper := [
  ⟨some 12, .move (.t 0), none, []⟩,
  ⟨some 13, .move (.t 5), none, []⟩,
  ⟨some 14, .indexAddr 1 none (.t 12) (.t 13), none, []⟩,
  ⟨some 15, .load false 1 (.t 14), none, []⟩,
  ⟨some 16, .move (.t 1), none, []⟩,
  ⟨some 17, .call false (.c (.fn 345 [])) [.t 15, .t 16], none, []⟩,
  ⟨some 1, .move (.t 17), none, []⟩]
def r356_5 : List VOper := [
  ⟨some 18, .move (.t 1), none, []⟩,
  ⟨some 19, .bin .lss (.t 18) (.c (.d (.int .i64 0))), none, []⟩]
def r356_6 : List VOper := [
  ⟨some 4, .move (.c (.d (.int .i64 (-1)))), none, []⟩]
def r356_3 : List VOper := [
  ⟨some 10, .move (.t 5), none, []⟩,
  ⟨some 11, .bin .add (.t 10) (.c (.d (.int .i64 1))), none, []⟩,
  ⟨some 5, .move (.t 11), none, []⟩]
def b356_0 : VCode := (.seq (.seq (.region false 0 [0, 1, 5, 9] r356_2) (.cond (.t 9) .skip (.exit 0))) (.seq (.block 1 (.seq (.region false 0 [0, 1, 5] r356_4) (.seq (.region false 0 [0, 1, 5, 19] r356_5) (.cond (.t 19) (.seq (.region false 0 [4] r356_6) .ret) .skip)))) (.region false 0 [0, 1, 5] r356_3)))
def r356_7 : List VOper := [
  ⟨some 20, .move (.t 1), none, []⟩,
  ⟨some 4, .move (.t 20), none, []⟩]
def v356 : VFn := ⟨2, [.tmp 4], (.seq (.region false 0 [0, 1] r356_0) (.seq (.seq (.region false 0 [0, 1, 5] r356_1) (.block 0 (.loop [0, 1, 5] b356_0))) (.seq (.region false 0 [4] r356_7) .ret)))⟩
def look : List (Nat × VFn) → Nat → Option VFn
  | [], _ => none
  | (k, v) :: r, n => if n = k then some v else look r n
def codes : List (Nat × VFn) := [(30, v30), (31, v31), (41, v41), (43, v43), (44, v44), (45, v45), (46, v46), (47, v47), (48, v48), (50, v50), (51, v51), (207, v207), (208, v208), (217, v217), (218, v218), (219, v219), (220, v220), (221, v221), (222, v222), (223, v223), (224, v224), (226, v226), (227, v227), (228, v228), (230, v230), (344, v344), (345, v345), (351, v351), (352, v352), (355, v355), (356, v356)]
def specs : List (Nat × SFn) := []
def nats : List (Nat × (List DV → Option DV)) := [(225, concatD)]
def E : Env := ⟨look codes, fun k => (lookN nats k).map natV, lookS specs⟩
theorem code_30 : E.code 30 = some v30 := by kernel_rfl
theorem code_31 : E.code 31 = some v31 := by kernel_rfl
theorem code_41 : E.code 41 = some v41 := by kernel_rfl
theorem code_43 : E.code 43 = some v43 := by kernel_rfl
theorem code_44 : E.code 44 = some v44 := by kernel_rfl
theorem code_45 : E.code 45 = some v45 := by kernel_rfl
theorem code_46 : E.code 46 = some v46 := by kernel_rfl
theorem code_47 : E.code 47 = some v47 := by kernel_rfl
theorem code_48 : E.code 48 = some v48 := by kernel_rfl
theorem code_50 : E.code 50 = some v50 := by kernel_rfl
theorem code_51 : E.code 51 = some v51 := by kernel_rfl
theorem code_207 : E.code 207 = some v207 := by kernel_rfl
theorem code_208 : E.code 208 = some v208 := by kernel_rfl
theorem code_217 : E.code 217 = some v217 := by kernel_rfl
theorem code_218 : E.code 218 = some v218 := by kernel_rfl
theorem code_219 : E.code 219 = some v219 := by kernel_rfl
theorem code_220 : E.code 220 = some v220 := by kernel_rfl
theorem code_221 : E.code 221 = some v221 := by kernel_rfl
theorem code_222 : E.code 222 = some v222 := by kernel_rfl
theorem code_223 : E.code 223 = some v223 := by kernel_rfl
theorem code_224 : E.code 224 = some v224 := by kernel_rfl
theorem code_226 : E.code 226 = some v226 := by kernel_rfl
theorem code_227 : E.code 227 = some v227 := by kernel_rfl
theorem code_228 : E.code 228 = some v228 := by kernel_rfl
theorem code_230 : E.code 230 = some v230 := by kernel_rfl
theorem code_344 : E.code 344 = some v344 := by kernel_rfl
theorem code_345 : E.code 345 = some v345 := by kernel_rfl
theorem code_351 : E.code 351 = some v351 := by kernel_rfl
theorem code_352 : E.code 352 = some v352 := by kernel_rfl
theorem code_355 : E.code 355 = some v355 := by kernel_rfl
theorem code_356 : E.code 356 = some v356 := by kernel_rfl
end Go.Proofs.Ytficfeekkljoeaa.VS
