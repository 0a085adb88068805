/- The functions of chapter 01 as the abstract machine's code. Conditions: none. -/
import Derived.Test.YtkbklpkbdccpdaaAmFive
import Derived.Test.YtkbklpkbdccpdaaEnv
set_option maxRecDepth 100000
namespace Go.Proofs.Word
open Go Go.AM
noncomputable section
/-- mortise/mortiselaw01.WordRing -/
def c3 : XC :=
  (.seq
  (.reg false [
    ⟨some 8, .assign (.const (.bool false)), none, false, true, false⟩])
  (.seq
  (.reg false [
    ⟨some 13, .move (.tmp 0), none, false, true, false⟩,
    ⟨some 14, .call ⟨.value (.func 10), #[.tmp 13], #[4]⟩, none, false, true, false⟩,
    ⟨some 9, .assign (.tmp 14), none, false, true, false⟩])
  (.seq
  (.reg false [
    ⟨some 15, .buildSlice 23 2 #[(0, .const (.string ⟨#[43]⟩)), (1, .const (.string ⟨#[42]⟩))], none, false, true, false⟩,
    ⟨some 10, .assign (.tmp 15), none, false, true, false⟩])
  (.seq
  (.seq
  (.reg false [
    ⟨some 11, .assign (.const (.int .i64 0)), none, false, true, false⟩])
  (.block 0
    (.loop
      (.seq
      (.seq
      (.reg false [
        ⟨some 16, .move (.tmp 11), none, false, true, false⟩,
        ⟨some 17, .binOp .lss 3 (.tmp 16) (.const (.int .i64 2)) 3, none, false, true, false⟩])
      (.cond (.tmp 17)
        .skip
        (.exit 0)))
      (.seq
      (.block 1
        (.seq
        (.reg false [
          ⟨some 20, .move (.tmp 10), none, false, true, false⟩,
          ⟨some 21, .move (.tmp 11), none, false, true, false⟩,
          ⟨some 22, .indexAddr 23 (.tmp 20) (.tmp 21), none, false, true, false⟩,
          ⟨some 23, .load 9 (.tmp 22), none, false, true, false⟩,
          ⟨some 12, .assign (.tmp 23), none, false, true, false⟩])
        (.seq
        (.reg false [
          ⟨some 24, .move (.tmp 9), none, false, true, false⟩,
          ⟨some 25, .move (.tmp 12), none, false, true, false⟩,
          ⟨some 26, .move (.tmp 1), none, false, true, false⟩,
          ⟨some 27, .move (.tmp 2), none, false, true, false⟩,
          ⟨some 28, .call ⟨.value (.func 11), #[.tmp 24, .tmp 25, .tmp 26, .tmp 27], #[3, 9, 3, 3]⟩, none, false, true, false⟩,
          ⟨some 29, .move (.tmp 9), none, false, true, false⟩,
          ⟨some 30, .move (.tmp 12), none, false, true, false⟩,
          ⟨some 31, .move (.tmp 2), none, false, true, false⟩,
          ⟨some 32, .move (.tmp 1), none, false, true, false⟩,
          ⟨some 33, .call ⟨.value (.func 11), #[.tmp 29, .tmp 30, .tmp 31, .tmp 32], #[3, 9, 3, 3]⟩, none, false, true, false⟩,
          ⟨some 34, .binOp .neq 3 (.tmp 28) (.tmp 33) 3, none, false, true, false⟩,
          ⟨some 35, .move (.tmp 34), none, false, true, false⟩,
          ⟨some 36, .move (.tmp 9), some (some 35, false), false, true, false⟩,
          ⟨some 37, .move (.tmp 12), some (some 35, false), false, true, false⟩,
          ⟨some 38, .move (.tmp 9), some (some 35, false), false, true, false⟩,
          ⟨some 39, .move (.tmp 12), some (some 35, false), false, true, false⟩,
          ⟨some 40, .move (.tmp 1), some (some 35, false), false, true, false⟩,
          ⟨some 41, .move (.tmp 2), some (some 35, false), false, true, false⟩,
          ⟨some 42, .call ⟨.value (.func 11), #[.tmp 38, .tmp 39, .tmp 40, .tmp 41], #[3, 9, 3, 3]⟩, some (some 35, false), false, true, false⟩,
          ⟨some 43, .move (.tmp 3), some (some 35, false), false, true, false⟩,
          ⟨some 44, .call ⟨.value (.func 11), #[.tmp 36, .tmp 37, .tmp 42, .tmp 43], #[3, 9, 3, 3]⟩, some (some 35, false), false, true, false⟩,
          ⟨some 45, .move (.tmp 9), some (some 35, false), false, true, false⟩,
          ⟨some 46, .move (.tmp 12), some (some 35, false), false, true, false⟩,
          ⟨some 47, .move (.tmp 1), some (some 35, false), false, true, false⟩,
          ⟨some 48, .move (.tmp 9), some (some 35, false), false, true, false⟩,
          ⟨some 49, .move (.tmp 12), some (some 35, false), false, true, false⟩,
          ⟨some 50, .move (.tmp 2), some (some 35, false), false, true, false⟩,
          ⟨some 51, .move (.tmp 3), some (some 35, false), false, true, false⟩,
          ⟨some 52, .call ⟨.value (.func 11), #[.tmp 48, .tmp 49, .tmp 50, .tmp 51], #[3, 9, 3, 3]⟩, some (some 35, false), false, true, false⟩,
          ⟨some 53, .call ⟨.value (.func 11), #[.tmp 45, .tmp 46, .tmp 47, .tmp 52], #[3, 9, 3, 3]⟩, some (some 35, false), false, true, false⟩,
          ⟨some 54, .binOp .neq 3 (.tmp 44) (.tmp 53) 3, some (some 35, false), false, true, false⟩,
          ⟨some 55, .pick (.tmp 35) (.const (.bool true)) (.tmp 54), none, false, true, false⟩])
        (.cond (.tmp 55)
          (.seq
          (.reg false [
            ⟨some 8, .assign (.const (.bool false)), none, false, true, false⟩])
          .ret)
          .skip))))
      (.reg false [
        ⟨some 18, .move (.tmp 11), none, false, true, false⟩,
        ⟨some 19, .binOp .add 3 (.tmp 18) (.const (.int .i64 1)) 3, none, false, true, false⟩,
        ⟨some 11, .assign (.tmp 19), none, false, true, false⟩]))))))
  (.seq
  (.seq
  (.reg false [
    ⟨some 56, .move (.tmp 9), none, false, true, false⟩,
    ⟨some 57, .move (.tmp 1), none, false, true, false⟩,
    ⟨some 58, .move (.tmp 9), none, false, true, false⟩,
    ⟨some 59, .move (.tmp 2), none, false, true, false⟩,
    ⟨some 60, .move (.tmp 3), none, false, true, false⟩,
    ⟨some 61, .call ⟨.value (.func 11), #[.tmp 58, .const (.string ⟨#[43]⟩), .tmp 59, .tmp 60], #[3, 9, 3, 3]⟩, none, false, true, false⟩,
    ⟨some 62, .call ⟨.value (.func 11), #[.tmp 56, .const (.string ⟨#[42]⟩), .tmp 57, .tmp 61], #[3, 9, 3, 3]⟩, none, false, true, false⟩,
    ⟨some 63, .move (.tmp 9), none, false, true, false⟩,
    ⟨some 64, .move (.tmp 9), none, false, true, false⟩,
    ⟨some 65, .move (.tmp 1), none, false, true, false⟩,
    ⟨some 66, .move (.tmp 2), none, false, true, false⟩,
    ⟨some 67, .call ⟨.value (.func 11), #[.tmp 64, .const (.string ⟨#[42]⟩), .tmp 65, .tmp 66], #[3, 9, 3, 3]⟩, none, false, true, false⟩,
    ⟨some 68, .move (.tmp 9), none, false, true, false⟩,
    ⟨some 69, .move (.tmp 1), none, false, true, false⟩,
    ⟨some 70, .move (.tmp 3), none, false, true, false⟩,
    ⟨some 71, .call ⟨.value (.func 11), #[.tmp 68, .const (.string ⟨#[42]⟩), .tmp 69, .tmp 70], #[3, 9, 3, 3]⟩, none, false, true, false⟩,
    ⟨some 72, .call ⟨.value (.func 11), #[.tmp 63, .const (.string ⟨#[43]⟩), .tmp 67, .tmp 71], #[3, 9, 3, 3]⟩, none, false, true, false⟩,
    ⟨some 73, .binOp .neq 3 (.tmp 62) (.tmp 72) 3, none, false, true, false⟩])
  (.cond (.tmp 73)
    (.seq
    (.reg false [
      ⟨some 8, .assign (.const (.bool false)), none, false, true, false⟩])
    .ret)
    .skip))
  (.seq
  (.reg false [
    ⟨some 74, .move (.tmp 9), none, false, true, false⟩,
    ⟨some 75, .move (.tmp 9), none, false, true, false⟩,
    ⟨some 76, .move (.tmp 1), none, false, true, false⟩,
    ⟨some 77, .move (.tmp 2), none, false, true, false⟩,
    ⟨some 78, .call ⟨.value (.func 11), #[.tmp 75, .const (.string ⟨#[45]⟩), .tmp 76, .tmp 77], #[3, 9, 3, 3]⟩, none, false, true, false⟩,
    ⟨some 79, .move (.tmp 2), none, false, true, false⟩,
    ⟨some 80, .call ⟨.value (.func 11), #[.tmp 74, .const (.string ⟨#[43]⟩), .tmp 78, .tmp 79], #[3, 9, 3, 3]⟩, none, false, true, false⟩,
    ⟨some 81, .move (.tmp 9), none, false, true, false⟩,
    ⟨some 82, .move (.tmp 1), none, false, true, false⟩,
    ⟨some 83, .call ⟨.value (.func 12), #[.tmp 81, .tmp 82], #[3, 3]⟩, none, false, true, false⟩,
    ⟨some 84, .binOp .eql 3 (.tmp 80) (.tmp 83) 3, none, false, true, false⟩,
    ⟨some 85, .move (.tmp 84), none, false, true, false⟩,
    ⟨some 86, .move (.tmp 9), some (some 85, true), false, true, false⟩,
    ⟨some 87, .move (.tmp 1), some (some 85, true), false, true, false⟩,
    ⟨some 88, .call ⟨.value (.func 11), #[.tmp 86, .const (.string ⟨#[43]⟩), .tmp 87, .const (.int .i64 0)], #[3, 9, 3, 3]⟩, some (some 85, true), false, true, false⟩,
    ⟨some 89, .move (.tmp 9), some (some 85, true), false, true, false⟩,
    ⟨some 90, .move (.tmp 1), some (some 85, true), false, true, false⟩,
    ⟨some 91, .call ⟨.value (.func 12), #[.tmp 89, .tmp 90], #[3, 3]⟩, some (some 85, true), false, true, false⟩,
    ⟨some 92, .binOp .eql 3 (.tmp 88) (.tmp 91) 3, some (some 85, true), false, true, false⟩,
    ⟨some 93, .pick (.tmp 85) (.tmp 92) (.const (.bool false)), none, false, true, false⟩,
    ⟨some 94, .move (.tmp 93), none, false, true, false⟩,
    ⟨some 95, .move (.tmp 9), some (some 94, true), false, true, false⟩,
    ⟨some 96, .move (.tmp 1), some (some 94, true), false, true, false⟩,
    ⟨some 97, .call ⟨.value (.func 11), #[.tmp 95, .const (.string ⟨#[42]⟩), .tmp 96, .const (.int .i64 1)], #[3, 9, 3, 3]⟩, some (some 94, true), false, true, false⟩,
    ⟨some 98, .move (.tmp 9), some (some 94, true), false, true, false⟩,
    ⟨some 99, .move (.tmp 1), some (some 94, true), false, true, false⟩,
    ⟨some 100, .call ⟨.value (.func 12), #[.tmp 98, .tmp 99], #[3, 3]⟩, some (some 94, true), false, true, false⟩,
    ⟨some 101, .binOp .eql 3 (.tmp 97) (.tmp 100) 3, some (some 94, true), false, true, false⟩,
    ⟨some 102, .pick (.tmp 94) (.tmp 101) (.const (.bool false)), none, false, true, false⟩,
    ⟨some 103, .move (.tmp 102), none, false, true, false⟩,
    ⟨some 104, .call ⟨.value (.func 13), #[], #[]⟩, some (some 103, true), false, true, false⟩,
    ⟨some 105, .pick (.tmp 103) (.tmp 104) (.const (.bool false)), none, false, true, false⟩,
    ⟨some 8, .assign (.tmp 105), none, false, true, false⟩])
  .ret))))))
def f3 : FI := ⟨c3, 106, [.tmp 8]⟩
theorem fn3 : AmEnv.fn 3 = some f3 := by kernel_rfl
/-- mortise/mortiselaw01.WordOrder -/
def c4 : XC :=
  (.seq
  (.reg false [
    ⟨some 6, .assign (.const (.bool false)), none, false, true, false⟩])
  (.seq
  (.reg false [
    ⟨some 13, .move (.tmp 0), none, false, true, false⟩,
    ⟨some 14, .call ⟨.value (.func 10), #[.tmp 13], #[4]⟩, none, false, true, false⟩,
    ⟨some 7, .assign (.tmp 14), none, false, true, false⟩])
  (.seq
  (.reg false [
    ⟨some 15, .move (.tmp 7), none, false, true, false⟩,
    ⟨some 16, .move (.tmp 1), none, false, true, false⟩,
    ⟨some 17, .call ⟨.value (.func 12), #[.tmp 15, .tmp 16], #[3, 3]⟩, none, false, true, false⟩,
    ⟨some 8, .assign (.tmp 17), none, false, true, false⟩])
  (.seq
  (.reg false [
    ⟨some 18, .move (.tmp 7), none, false, true, false⟩,
    ⟨some 19, .move (.tmp 2), none, false, true, false⟩,
    ⟨some 20, .call ⟨.value (.func 12), #[.tmp 18, .tmp 19], #[3, 3]⟩, none, false, true, false⟩,
    ⟨some 9, .assign (.tmp 20), none, false, true, false⟩])
  (.seq
  (.reg false [
    ⟨some 21, .move (.tmp 7), none, false, true, false⟩,
    ⟨some 22, .move (.tmp 1), none, false, true, false⟩,
    ⟨some 23, .move (.tmp 2), none, false, true, false⟩,
    ⟨some 24, .call ⟨.value (.func 11), #[.tmp 21, .const (.string ⟨#[60]⟩), .tmp 22, .tmp 23], #[3, 9, 3, 3]⟩, none, false, true, false⟩,
    ⟨some 10, .assign (.tmp 24), none, false, true, false⟩])
  (.seq
  (.reg false [
    ⟨some 25, .move (.tmp 7), none, false, true, false⟩,
    ⟨some 26, .move (.tmp 1), none, false, true, false⟩,
    ⟨some 27, .move (.tmp 2), none, false, true, false⟩,
    ⟨some 28, .call ⟨.value (.func 11), #[.tmp 25, .const (.string ⟨#[61, 61]⟩), .tmp 26, .tmp 27], #[3, 9, 3, 3]⟩, none, false, true, false⟩,
    ⟨some 11, .assign (.tmp 28), none, false, true, false⟩])
  (.seq
  (.reg false [
    ⟨some 29, .move (.tmp 7), none, false, true, false⟩,
    ⟨some 30, .move (.tmp 1), none, false, true, false⟩,
    ⟨some 31, .move (.tmp 2), none, false, true, false⟩,
    ⟨some 32, .call ⟨.value (.func 11), #[.tmp 29, .const (.string ⟨#[62]⟩), .tmp 30, .tmp 31], #[3, 9, 3, 3]⟩, none, false, true, false⟩,
    ⟨some 12, .assign (.tmp 32), none, false, true, false⟩])
  (.seq
  (.seq
  (.reg false [
    ⟨some 33, .move (.tmp 10), none, false, true, false⟩,
    ⟨some 34, .move (.tmp 11), none, false, true, false⟩,
    ⟨some 35, .binOp .add 3 (.tmp 33) (.tmp 34) 3, none, false, true, false⟩,
    ⟨some 36, .move (.tmp 12), none, false, true, false⟩,
    ⟨some 37, .binOp .add 3 (.tmp 35) (.tmp 36) 3, none, false, true, false⟩,
    ⟨some 38, .binOp .neq 3 (.tmp 37) (.const (.int .i64 1)) 3, none, false, true, false⟩,
    ⟨some 39, .move (.tmp 38), none, false, true, false⟩,
    ⟨some 40, .move (.tmp 10), some (some 39, false), false, true, false⟩,
    ⟨some 41, .binOp .eql 3 (.tmp 40) (.const (.int .i64 1)) 3, some (some 39, false), false, true, false⟩,
    ⟨some 42, .move (.tmp 8), some (some 39, false), false, true, false⟩,
    ⟨some 43, .move (.tmp 9), some (some 39, false), false, true, false⟩,
    ⟨some 44, .binOp .lss 3 (.tmp 42) (.tmp 43) 3, some (some 39, false), false, true, false⟩,
    ⟨some 45, .binOp .neq 4 (.tmp 41) (.tmp 44) 4, some (some 39, false), false, true, false⟩,
    ⟨some 46, .pick (.tmp 39) (.const (.bool true)) (.tmp 45), none, false, true, false⟩,
    ⟨some 47, .move (.tmp 46), none, false, true, false⟩,
    ⟨some 48, .move (.tmp 11), some (some 47, false), false, true, false⟩,
    ⟨some 49, .binOp .eql 3 (.tmp 48) (.const (.int .i64 1)) 3, some (some 47, false), false, true, false⟩,
    ⟨some 50, .move (.tmp 8), some (some 47, false), false, true, false⟩,
    ⟨some 51, .move (.tmp 9), some (some 47, false), false, true, false⟩,
    ⟨some 52, .binOp .eql 3 (.tmp 50) (.tmp 51) 3, some (some 47, false), false, true, false⟩,
    ⟨some 53, .binOp .neq 4 (.tmp 49) (.tmp 52) 4, some (some 47, false), false, true, false⟩,
    ⟨some 54, .pick (.tmp 47) (.const (.bool true)) (.tmp 53), none, false, true, false⟩,
    ⟨some 55, .move (.tmp 54), none, false, true, false⟩,
    ⟨some 56, .move (.tmp 12), some (some 55, false), false, true, false⟩,
    ⟨some 57, .binOp .eql 3 (.tmp 56) (.const (.int .i64 1)) 3, some (some 55, false), false, true, false⟩,
    ⟨some 58, .move (.tmp 8), some (some 55, false), false, true, false⟩,
    ⟨some 59, .move (.tmp 9), some (some 55, false), false, true, false⟩,
    ⟨some 60, .binOp .gtr 3 (.tmp 58) (.tmp 59) 3, some (some 55, false), false, true, false⟩,
    ⟨some 61, .binOp .neq 4 (.tmp 57) (.tmp 60) 4, some (some 55, false), false, true, false⟩,
    ⟨some 62, .pick (.tmp 55) (.const (.bool true)) (.tmp 61), none, false, true, false⟩])
  (.cond (.tmp 62)
    (.seq
    (.reg false [
      ⟨some 6, .assign (.const (.bool false)), none, false, true, false⟩])
    .ret)
    .skip))
  (.seq
  (.reg false [
    ⟨some 63, .move (.tmp 7), none, false, true, false⟩,
    ⟨some 64, .move (.tmp 1), none, false, true, false⟩,
    ⟨some 65, .move (.tmp 2), none, false, true, false⟩,
    ⟨some 66, .call ⟨.value (.func 11), #[.tmp 63, .const (.string ⟨#[60, 61]⟩), .tmp 64, .tmp 65], #[3, 9, 3, 3]⟩, none, false, true, false⟩,
    ⟨some 67, .move (.tmp 12), none, false, true, false⟩,
    ⟨some 68, .binOp .sub 3 (.const (.int .i64 1)) (.tmp 67) 3, none, false, true, false⟩,
    ⟨some 69, .binOp .eql 3 (.tmp 66) (.tmp 68) 3, none, false, true, false⟩,
    ⟨some 70, .move (.tmp 69), none, false, true, false⟩,
    ⟨some 71, .move (.tmp 7), some (some 70, true), false, true, false⟩,
    ⟨some 72, .move (.tmp 1), some (some 70, true), false, true, false⟩,
    ⟨some 73, .move (.tmp 2), some (some 70, true), false, true, false⟩,
    ⟨some 74, .call ⟨.value (.func 11), #[.tmp 71, .const (.string ⟨#[62, 61]⟩), .tmp 72, .tmp 73], #[3, 9, 3, 3]⟩, some (some 70, true), false, true, false⟩,
    ⟨some 75, .move (.tmp 10), some (some 70, true), false, true, false⟩,
    ⟨some 76, .binOp .sub 3 (.const (.int .i64 1)) (.tmp 75) 3, some (some 70, true), false, true, false⟩,
    ⟨some 77, .binOp .eql 3 (.tmp 74) (.tmp 76) 3, some (some 70, true), false, true, false⟩,
    ⟨some 78, .pick (.tmp 70) (.tmp 77) (.const (.bool false)), none, false, true, false⟩,
    ⟨some 79, .move (.tmp 78), none, false, true, false⟩,
    ⟨some 80, .move (.tmp 7), some (some 79, true), false, true, false⟩,
    ⟨some 81, .move (.tmp 1), some (some 79, true), false, true, false⟩,
    ⟨some 82, .move (.tmp 2), some (some 79, true), false, true, false⟩,
    ⟨some 83, .call ⟨.value (.func 11), #[.tmp 80, .const (.string ⟨#[33, 61]⟩), .tmp 81, .tmp 82], #[3, 9, 3, 3]⟩, some (some 79, true), false, true, false⟩,
    ⟨some 84, .move (.tmp 11), some (some 79, true), false, true, false⟩,
    ⟨some 85, .binOp .sub 3 (.const (.int .i64 1)) (.tmp 84) 3, some (some 79, true), false, true, false⟩,
    ⟨some 86, .binOp .eql 3 (.tmp 83) (.tmp 85) 3, some (some 79, true), false, true, false⟩,
    ⟨some 87, .pick (.tmp 79) (.tmp 86) (.const (.bool false)), none, false, true, false⟩,
    ⟨some 88, .move (.tmp 87), none, false, true, false⟩,
    ⟨some 89, .move (.tmp 7), some (some 88, true), false, true, false⟩,
    ⟨some 90, .move (.tmp 2), some (some 88, true), false, true, false⟩,
    ⟨some 91, .move (.tmp 1), some (some 88, true), false, true, false⟩,
    ⟨some 92, .call ⟨.value (.func 11), #[.tmp 89, .const (.string ⟨#[62]⟩), .tmp 90, .tmp 91], #[3, 9, 3, 3]⟩, some (some 88, true), false, true, false⟩,
    ⟨some 93, .move (.tmp 10), some (some 88, true), false, true, false⟩,
    ⟨some 94, .binOp .eql 3 (.tmp 92) (.tmp 93) 3, some (some 88, true), false, true, false⟩,
    ⟨some 95, .pick (.tmp 88) (.tmp 94) (.const (.bool false)), none, false, true, false⟩,
    ⟨some 96, .move (.tmp 95), none, false, true, false⟩,
    ⟨some 97, .call ⟨.value (.func 13), #[], #[]⟩, some (some 96, true), false, true, false⟩,
    ⟨some 98, .pick (.tmp 96) (.tmp 97) (.const (.bool false)), none, false, true, false⟩,
    ⟨some 6, .assign (.tmp 98), none, false, true, false⟩])
  .ret)))))))))
def f4 : FI := ⟨c4, 99, [.tmp 6]⟩
theorem fn4 : AmEnv.fn 4 = some f4 := by kernel_rfl
/-- mortise/mortiselaw01.WordBins -/
def c5 : XC :=
  (.seq
  (.reg false [
    ⟨some 8, .assign (.const (.bool false)), none, false, true, false⟩])
  (.seq
  (.reg false [
    ⟨some 14, .move (.tmp 0), none, false, true, false⟩,
    ⟨some 15, .move (.tmp 1), none, false, true, false⟩,
    ⟨some 16, .move (.tmp 2), none, false, true, false⟩,
    ⟨some 17, .move (.tmp 3), none, false, true, false⟩,
    ⟨some 18, .call ⟨.value (.func 14), #[.tmp 14, .tmp 15, .tmp 16, .tmp 17], #[3, 9, 3, 3]⟩, none, false, true, false⟩,
    ⟨some 13, .move (.tmp 18), none, false, true, false⟩,
    ⟨some 19, .extract (.tmp 13) 0, none, false, true, false⟩,
    ⟨some 20, .extract (.tmp 13) 1, none, false, true, false⟩,
    ⟨some 9, .assign (.tmp 19), none, false, true, false⟩,
    ⟨some 10, .assign (.tmp 20), none, false, true, false⟩])
  (.seq
  (.reg false [
    ⟨some 22, .move (.tmp 0), none, false, true, false⟩,
    ⟨some 23, .move (.tmp 1), none, false, true, false⟩,
    ⟨some 24, .move (.tmp 2), none, false, true, false⟩,
    ⟨some 25, .move (.tmp 3), none, false, true, false⟩,
    ⟨some 26, .call ⟨.value (.func 15), #[.tmp 22, .tmp 23, .tmp 24, .tmp 25], #[3, 9, 3, 3]⟩, none, false, true, false⟩,
    ⟨some 21, .move (.tmp 26), none, false, true, false⟩,
    ⟨some 27, .extract (.tmp 21) 0, none, false, true, false⟩,
    ⟨some 28, .extract (.tmp 21) 1, none, false, true, false⟩,
    ⟨some 11, .assign (.tmp 27), none, false, true, false⟩,
    ⟨some 12, .assign (.tmp 28), none, false, true, false⟩])
  (.seq
  (.reg false [
    ⟨some 29, .move (.tmp 9), none, false, true, false⟩,
    ⟨some 30, .move (.tmp 11), none, false, true, false⟩,
    ⟨some 31, .binOp .eql 3 (.tmp 29) (.tmp 30) 3, none, false, true, false⟩,
    ⟨some 32, .move (.tmp 31), none, false, true, false⟩,
    ⟨some 33, .move (.tmp 10), some (some 32, true), false, true, false⟩,
    ⟨some 34, .move (.tmp 12), some (some 32, true), false, true, false⟩,
    ⟨some 35, .binOp .eql 3 (.tmp 33) (.tmp 34) 3, some (some 32, true), false, true, false⟩,
    ⟨some 36, .pick (.tmp 32) (.tmp 35) (.const (.bool false)), none, false, true, false⟩,
    ⟨some 37, .move (.tmp 36), none, false, true, false⟩,
    ⟨some 38, .move (.tmp 0), some (some 37, true), false, true, false⟩,
    ⟨some 39, .call ⟨.value (.func 16), #[.tmp 38], #[3]⟩, some (some 37, true), false, true, false⟩,
    ⟨some 40, .move (.tmp 0), some (some 37, true), false, true, false⟩,
    ⟨some 41, .call ⟨.value (.func 17), #[.tmp 40], #[3]⟩, some (some 37, true), false, true, false⟩,
    ⟨some 42, .binOp .eql 3 (.tmp 39) (.tmp 41) 3, some (some 37, true), false, true, false⟩,
    ⟨some 43, .pick (.tmp 37) (.tmp 42) (.const (.bool false)), none, false, true, false⟩,
    ⟨some 44, .move (.tmp 43), none, false, true, false⟩,
    ⟨some 45, .move (.tmp 0), some (some 44, true), false, true, false⟩,
    ⟨some 46, .move (.tmp 2), some (some 44, true), false, true, false⟩,
    ⟨some 47, .call ⟨.value (.func 12), #[.tmp 45, .tmp 46], #[3, 3]⟩, some (some 44, true), false, true, false⟩,
    ⟨some 48, .move (.tmp 0), some (some 44, true), false, true, false⟩,
    ⟨some 49, .move (.tmp 2), some (some 44, true), false, true, false⟩,
    ⟨some 50, .call ⟨.value (.func 18), #[.tmp 48, .tmp 49], #[3, 3]⟩, some (some 44, true), false, true, false⟩,
    ⟨some 51, .binOp .eql 3 (.tmp 47) (.tmp 50) 3, some (some 44, true), false, true, false⟩,
    ⟨some 52, .pick (.tmp 44) (.tmp 51) (.const (.bool false)), none, false, true, false⟩,
    ⟨some 53, .move (.tmp 52), none, false, true, false⟩,
    ⟨some 54, .call ⟨.value (.func 13), #[], #[]⟩, some (some 53, true), false, true, false⟩,
    ⟨some 55, .pick (.tmp 53) (.tmp 54) (.const (.bool false)), none, false, true, false⟩,
    ⟨some 8, .assign (.tmp 55), none, false, true, false⟩])
  .ret))))
def f5 : FI := ⟨c5, 56, [.tmp 8]⟩
theorem fn5 : AmEnv.fn 5 = some f5 := by kernel_rfl
/-- mortise/mortiselaw01.WordWraps -/
def c6 : XC :=
  (.seq
  (.reg false [
    ⟨some 10, .assign (.const (.bool false)), none, false, true, false⟩])
  (.seq
  (.reg false [
    ⟨some 20, .move (.tmp 0), none, false, true, false⟩,
    ⟨some 21, .call ⟨.value (.func 16), #[.tmp 20], #[3]⟩, none, false, true, false⟩,
    ⟨some 11, .assign (.tmp 21), none, false, true, false⟩])
  (.seq
  (.reg false [
    ⟨some 22, .move (.tmp 0), none, false, true, false⟩,
    ⟨some 23, .move (.tmp 1), none, false, true, false⟩,
    ⟨some 24, .call ⟨.value (.func 12), #[.tmp 22, .tmp 23], #[3, 3]⟩, none, false, true, false⟩,
    ⟨some 12, .assign (.tmp 24), none, false, true, false⟩])
  (.seq
  (.seq
  (.reg false [
    ⟨some 25, .move (.tmp 11), none, false, true, false⟩,
    ⟨some 26, .binOp .eql 3 (.tmp 25) (.const (.int .i64 0)) 3, none, false, true, false⟩])
  (.cond (.tmp 26)
    (.seq
    (.reg false [
      ⟨some 28, .move (.tmp 0), none, false, true, false⟩,
      ⟨some 29, .move (.tmp 3), none, false, true, false⟩,
      ⟨some 30, .move (.tmp 4), none, false, true, false⟩,
      ⟨some 31, .move (.tmp 1), none, false, true, false⟩,
      ⟨some 32, .call ⟨.value (.func 14), #[.tmp 28, .tmp 29, .tmp 30, .tmp 31], #[3, 9, 3, 3]⟩, none, false, true, false⟩,
      ⟨some 27, .move (.tmp 32), none, false, true, false⟩,
      ⟨some 33, .extract (.tmp 27) 0, none, false, true, false⟩,
      ⟨some 34, .extract (.tmp 27) 1, none, false, true, false⟩,
      ⟨some 13, .assign (.tmp 33), none, false, true, false⟩,
      ⟨some 14, .assign (.tmp 34), none, false, true, false⟩])
    (.seq
    (.reg false [
      ⟨some 35, .move (.tmp 12), none, false, true, false⟩,
      ⟨some 36, .binOp .eql 3 (.tmp 35) (.const (.int .i64 0)) 3, none, false, true, false⟩,
      ⟨some 37, .move (.tmp 36), none, false, true, false⟩,
      ⟨some 38, .move (.tmp 13), some (some 37, true), false, true, false⟩,
      ⟨some 39, .binOp .eql 3 (.tmp 38) (.const (.int .i64 0)) 3, some (some 37, true), false, true, false⟩,
      ⟨some 40, .pick (.tmp 37) (.tmp 39) (.const (.bool false)), none, false, true, false⟩,
      ⟨some 41, .move (.tmp 40), none, false, true, false⟩,
      ⟨some 42, .move (.tmp 14), some (some 41, true), false, true, false⟩,
      ⟨some 43, .binOp .eql 3 (.tmp 42) (.const (.int .i64 0)) 3, some (some 41, true), false, true, false⟩,
      ⟨some 44, .pick (.tmp 41) (.tmp 43) (.const (.bool false)), none, false, true, false⟩,
      ⟨some 45, .move (.tmp 44), none, false, true, false⟩,
      ⟨some 46, .call ⟨.value (.func 13), #[], #[]⟩, some (some 45, true), false, true, false⟩,
      ⟨some 47, .pick (.tmp 45) (.tmp 46) (.const (.bool false)), none, false, true, false⟩,
      ⟨some 10, .assign (.tmp 47), none, false, true, false⟩])
    .ret))
    .skip))
  (.seq
  (.reg false [
    ⟨some 48, .move (.tmp 1), none, false, true, false⟩,
    ⟨some 15, .assign (.tmp 48), none, false, true, false⟩])
  (.seq
  (.seq
  (.reg false [
    ⟨some 49, .move (.tmp 11), none, false, true, false⟩,
    ⟨some 50, .binOp .lss 3 (.tmp 49) (.const (.int .i64 64)) 3, none, false, true, false⟩])
  (.cond (.tmp 50)
    (.reg false [
      ⟨some 51, .move (.tmp 1), none, false, true, false⟩,
      ⟨some 52, .move (.tmp 2), none, false, true, false⟩,
      ⟨some 53, .move (.tmp 11), none, false, true, false⟩,
      ⟨some 54, .convert 3 33 (.tmp 53), none, false, true, false⟩,
      ⟨some 55, .binOp .shl 3 (.tmp 52) (.tmp 54) 33, none, false, true, false⟩,
      ⟨some 56, .binOp .add 3 (.tmp 51) (.tmp 55) 3, none, false, true, false⟩,
      ⟨some 15, .assign (.tmp 56), none, false, true, false⟩])
    .skip))
  (.seq
  (.seq
  (.reg false [
    ⟨some 57, .move (.tmp 0), none, false, true, false⟩,
    ⟨some 58, .move (.tmp 12), none, false, true, false⟩,
    ⟨some 59, .call ⟨.value (.func 12), #[.tmp 57, .tmp 58], #[3, 3]⟩, none, false, true, false⟩,
    ⟨some 60, .move (.tmp 12), none, false, true, false⟩,
    ⟨some 61, .binOp .neq 3 (.tmp 59) (.tmp 60) 3, none, false, true, false⟩,
    ⟨some 62, .move (.tmp 61), none, false, true, false⟩,
    ⟨some 63, .move (.tmp 0), some (some 62, false), false, true, false⟩,
    ⟨some 64, .move (.tmp 15), some (some 62, false), false, true, false⟩,
    ⟨some 65, .call ⟨.value (.func 12), #[.tmp 63, .tmp 64], #[3, 3]⟩, some (some 62, false), false, true, false⟩,
    ⟨some 66, .move (.tmp 12), some (some 62, false), false, true, false⟩,
    ⟨some 67, .binOp .neq 3 (.tmp 65) (.tmp 66) 3, some (some 62, false), false, true, false⟩,
    ⟨some 68, .pick (.tmp 62) (.const (.bool true)) (.tmp 67), none, false, true, false⟩,
    ⟨some 69, .move (.tmp 68), none, false, true, false⟩,
    ⟨some 70, .move (.tmp 11), some (some 69, false), false, true, false⟩,
    ⟨some 71, .binOp .eql 3 (.tmp 70) (.const (.int .i64 64)) 3, some (some 69, false), false, true, false⟩,
    ⟨some 72, .move (.tmp 71), some (some 69, false), false, true, false⟩,
    ⟨some 73, .move (.tmp 12), some (some 72, true), false, true, false⟩,
    ⟨some 74, .move (.tmp 1), some (some 72, true), false, true, false⟩,
    ⟨some 75, .binOp .neq 3 (.tmp 73) (.tmp 74) 3, some (some 72, true), false, true, false⟩,
    ⟨some 76, .pick (.tmp 72) (.tmp 75) (.const (.bool false)), some (some 69, false), false, true, false⟩,
    ⟨some 77, .pick (.tmp 69) (.const (.bool true)) (.tmp 76), none, false, true, false⟩,
    ⟨some 78, .move (.tmp 77), none, false, true, false⟩,
    ⟨some 79, .move (.tmp 11), some (some 78, false), false, true, false⟩,
    ⟨some 80, .binOp .lss 3 (.tmp 79) (.const (.int .i64 64)) 3, some (some 78, false), false, true, false⟩,
    ⟨some 81, .move (.tmp 80), some (some 78, false), false, true, false⟩,
    ⟨some 82, .move (.tmp 12), some (some 81, true), false, true, false⟩,
    ⟨some 83, .move (.tmp 11), some (some 81, true), false, true, false⟩,
    ⟨some 84, .binOp .sub 3 (.tmp 83) (.const (.int .i64 1)) 3, some (some 81, true), false, true, false⟩,
    ⟨some 85, .convert 3 33 (.tmp 84), some (some 81, true), false, true, false⟩,
    ⟨some 86, .binOp .shl 3 (.const (.int .i64 (-1))) (.tmp 85) 33, some (some 81, true), false, true, false⟩,
    ⟨some 87, .binOp .lss 3 (.tmp 82) (.tmp 86) 3, some (some 81, true), false, true, false⟩,
    ⟨some 88, .move (.tmp 87), some (some 81, true), false, true, false⟩,
    ⟨some 89, .move (.tmp 12), some (some 88, false), false, true, false⟩,
    ⟨some 90, .move (.tmp 11), some (some 88, false), false, true, false⟩,
    ⟨some 91, .binOp .sub 3 (.tmp 90) (.const (.int .i64 1)) 3, some (some 88, false), false, true, false⟩,
    ⟨some 92, .convert 3 33 (.tmp 91), some (some 88, false), false, true, false⟩,
    ⟨some 93, .binOp .shl 3 (.const (.int .i64 1)) (.tmp 92) 33, some (some 88, false), false, true, false⟩,
    ⟨some 94, .binOp .geq 3 (.tmp 89) (.tmp 93) 3, some (some 88, false), false, true, false⟩,
    ⟨some 95, .pick (.tmp 88) (.const (.bool true)) (.tmp 94), some (some 81, true), false, true, false⟩,
    ⟨some 96, .move (.tmp 95), some (some 81, true), false, true, false⟩,
    ⟨some 97, .move (.tmp 1), some (some 96, false), false, true, false⟩,
    ⟨some 98, .move (.tmp 12), some (some 96, false), false, true, false⟩,
    ⟨some 99, .binOp .sub 3 (.tmp 97) (.tmp 98) 3, some (some 96, false), false, true, false⟩,
    ⟨some 100, .move (.tmp 11), some (some 96, false), false, true, false⟩,
    ⟨some 101, .convert 3 33 (.tmp 100), some (some 96, false), false, true, false⟩,
    ⟨some 102, .binOp .shl 3 (.const (.int .i64 1)) (.tmp 101) 33, some (some 96, false), false, true, false⟩,
    ⟨some 103, .binOp .rem 3 (.tmp 99) (.tmp 102) 3, some (some 96, false), false, true, false⟩,
    ⟨some 104, .binOp .neq 3 (.tmp 103) (.const (.int .i64 0)) 3, some (some 96, false), false, true, false⟩,
    ⟨some 105, .pick (.tmp 96) (.const (.bool true)) (.tmp 104), some (some 81, true), false, true, false⟩,
    ⟨some 106, .pick (.tmp 81) (.tmp 105) (.const (.bool false)), some (some 78, false), false, true, false⟩,
    ⟨some 107, .pick (.tmp 78) (.const (.bool true)) (.tmp 106), none, false, true, false⟩])
  (.cond (.tmp 107)
    (.seq
    (.reg false [
      ⟨some 10, .assign (.const (.bool false)), none, false, true, false⟩])
    .ret)
    .skip))
  (.seq
  (.reg false [
    ⟨some 109, .move (.tmp 0), none, false, true, false⟩,
    ⟨some 110, .move (.tmp 3), none, false, true, false⟩,
    ⟨some 111, .move (.tmp 4), none, false, true, false⟩,
    ⟨some 112, .move (.tmp 1), none, false, true, false⟩,
    ⟨some 113, .call ⟨.value (.func 14), #[.tmp 109, .tmp 110, .tmp 111, .tmp 112], #[3, 9, 3, 3]⟩, none, false, true, false⟩,
    ⟨some 108, .move (.tmp 113), none, false, true, false⟩,
    ⟨some 114, .extract (.tmp 108) 0, none, false, true, false⟩,
    ⟨some 115, .extract (.tmp 108) 1, none, false, true, false⟩,
    ⟨some 16, .assign (.tmp 114), none, false, true, false⟩,
    ⟨some 17, .assign (.tmp 115), none, false, true, false⟩])
  (.seq
  (.reg false [
    ⟨some 117, .move (.tmp 0), none, false, true, false⟩,
    ⟨some 118, .move (.tmp 3), none, false, true, false⟩,
    ⟨some 119, .move (.tmp 4), none, false, true, false⟩,
    ⟨some 120, .move (.tmp 15), none, false, true, false⟩,
    ⟨some 121, .call ⟨.value (.func 14), #[.tmp 117, .tmp 118, .tmp 119, .tmp 120], #[3, 9, 3, 3]⟩, none, false, true, false⟩,
    ⟨some 116, .move (.tmp 121), none, false, true, false⟩,
    ⟨some 122, .extract (.tmp 116) 0, none, false, true, false⟩,
    ⟨some 123, .extract (.tmp 116) 1, none, false, true, false⟩,
    ⟨some 18, .assign (.tmp 122), none, false, true, false⟩,
    ⟨some 19, .assign (.tmp 123), none, false, true, false⟩])
  (.seq
  (.reg false [
    ⟨some 124, .move (.tmp 0), none, false, true, false⟩,
    ⟨some 125, .move (.tmp 16), none, false, true, false⟩,
    ⟨some 126, .call ⟨.value (.func 12), #[.tmp 124, .tmp 125], #[3, 3]⟩, none, false, true, false⟩,
    ⟨some 127, .move (.tmp 16), none, false, true, false⟩,
    ⟨some 128, .binOp .eql 3 (.tmp 126) (.tmp 127) 3, none, false, true, false⟩,
    ⟨some 129, .move (.tmp 128), none, false, true, false⟩,
    ⟨some 130, .move (.tmp 16), some (some 129, true), false, true, false⟩,
    ⟨some 131, .move (.tmp 18), some (some 129, true), false, true, false⟩,
    ⟨some 132, .binOp .eql 3 (.tmp 130) (.tmp 131) 3, some (some 129, true), false, true, false⟩,
    ⟨some 133, .pick (.tmp 129) (.tmp 132) (.const (.bool false)), none, false, true, false⟩,
    ⟨some 134, .move (.tmp 133), none, false, true, false⟩,
    ⟨some 135, .move (.tmp 17), some (some 134, true), false, true, false⟩,
    ⟨some 136, .move (.tmp 19), some (some 134, true), false, true, false⟩,
    ⟨some 137, .binOp .eql 3 (.tmp 135) (.tmp 136) 3, some (some 134, true), false, true, false⟩,
    ⟨some 138, .pick (.tmp 134) (.tmp 137) (.const (.bool false)), none, false, true, false⟩,
    ⟨some 139, .move (.tmp 138), none, false, true, false⟩,
    ⟨some 140, .move (.tmp 17), some (some 139, true), false, true, false⟩,
    ⟨some 141, .binOp .eql 3 (.tmp 140) (.const (.int .i64 0)) 3, some (some 139, true), false, true, false⟩,
    ⟨some 142, .move (.tmp 141), some (some 139, true), false, true, false⟩,
    ⟨some 143, .move (.tmp 16), some (some 142, false), false, true, false⟩,
    ⟨some 144, .binOp .eql 3 (.tmp 143) (.const (.int .i64 0)) 3, some (some 142, false), false, true, false⟩,
    ⟨some 145, .pick (.tmp 142) (.const (.bool true)) (.tmp 144), some (some 139, true), false, true, false⟩,
    ⟨some 146, .pick (.tmp 139) (.tmp 145) (.const (.bool false)), none, false, true, false⟩,
    ⟨some 147, .move (.tmp 146), none, false, true, false⟩,
    ⟨some 148, .call ⟨.value (.func 13), #[], #[]⟩, some (some 147, true), false, true, false⟩,
    ⟨some 149, .pick (.tmp 147) (.tmp 148) (.const (.bool false)), none, false, true, false⟩,
    ⟨some 10, .assign (.tmp 149), none, false, true, false⟩])
  .ret))))))))))
def f6 : FI := ⟨c6, 150, [.tmp 10]⟩
theorem fn6 : AmEnv.fn 6 = some f6 := by kernel_rfl
/-- mortise/mortiselaw01.WordDivides -/
def c7 : XC :=
  (.seq
  (.reg false [
    ⟨some 6, .assign (.const (.bool false)), none, false, true, false⟩])
  (.seq
  (.reg false [
    ⟨some 13, .move (.tmp 0), none, false, true, false⟩,
    ⟨some 14, .call ⟨.value (.func 10), #[.tmp 13], #[4]⟩, none, false, true, false⟩,
    ⟨some 7, .assign (.tmp 14), none, false, true, false⟩])
  (.seq
  (.reg false [
    ⟨some 16, .move (.tmp 7), none, false, true, false⟩,
    ⟨some 17, .move (.tmp 1), none, false, true, false⟩,
    ⟨some 18, .move (.tmp 2), none, false, true, false⟩,
    ⟨some 19, .call ⟨.value (.func 14), #[.tmp 16, .const (.string ⟨#[47]⟩), .tmp 17, .tmp 18], #[3, 9, 3, 3]⟩, none, false, true, false⟩,
    ⟨some 15, .move (.tmp 19), none, false, true, false⟩,
    ⟨some 20, .extract (.tmp 15) 0, none, false, true, false⟩,
    ⟨some 21, .extract (.tmp 15) 1, none, false, true, false⟩,
    ⟨some 8, .assign (.tmp 20), none, false, true, false⟩,
    ⟨some 9, .assign (.tmp 21), none, false, true, false⟩])
  (.seq
  (.reg false [
    ⟨some 23, .move (.tmp 7), none, false, true, false⟩,
    ⟨some 24, .move (.tmp 1), none, false, true, false⟩,
    ⟨some 25, .move (.tmp 2), none, false, true, false⟩,
    ⟨some 26, .call ⟨.value (.func 14), #[.tmp 23, .const (.string ⟨#[37]⟩), .tmp 24, .tmp 25], #[3, 9, 3, 3]⟩, none, false, true, false⟩,
    ⟨some 22, .move (.tmp 26), none, false, true, false⟩,
    ⟨some 27, .extract (.tmp 22) 0, none, false, true, false⟩,
    ⟨some 28, .extract (.tmp 22) 1, none, false, true, false⟩,
    ⟨some 10, .assign (.tmp 27), none, false, true, false⟩,
    ⟨some 11, .assign (.tmp 28), none, false, true, false⟩])
  (.seq
  (.reg false [
    ⟨some 29, .move (.tmp 7), none, false, true, false⟩,
    ⟨some 30, .move (.tmp 1), none, false, true, false⟩,
    ⟨some 31, .call ⟨.value (.func 12), #[.tmp 29, .tmp 30], #[3, 3]⟩, none, false, true, false⟩,
    ⟨some 1, .assign (.tmp 31), none, false, true, false⟩])
  (.seq
  (.reg false [
    ⟨some 32, .move (.tmp 7), none, false, true, false⟩,
    ⟨some 33, .move (.tmp 2), none, false, true, false⟩,
    ⟨some 34, .call ⟨.value (.func 12), #[.tmp 32, .tmp 33], #[3, 3]⟩, none, false, true, false⟩,
    ⟨some 2, .assign (.tmp 34), none, false, true, false⟩])
  (.seq
  (.seq
  (.reg false [
    ⟨some 35, .move (.tmp 2), none, false, true, false⟩,
    ⟨some 36, .binOp .eql 3 (.tmp 35) (.const (.int .i64 0)) 3, none, false, true, false⟩])
  (.cond (.tmp 36)
    (.seq
    (.reg false [
      ⟨some 37, .move (.tmp 9), none, false, true, false⟩,
      ⟨some 38, .binOp .eql 3 (.tmp 37) (.const (.int .i64 1)) 3, none, false, true, false⟩,
      ⟨some 39, .move (.tmp 38), none, false, true, false⟩,
      ⟨some 40, .move (.tmp 11), some (some 39, true), false, true, false⟩,
      ⟨some 41, .binOp .eql 3 (.tmp 40) (.const (.int .i64 1)) 3, some (some 39, true), false, true, false⟩,
      ⟨some 42, .pick (.tmp 39) (.tmp 41) (.const (.bool false)), none, false, true, false⟩,
      ⟨some 43, .move (.tmp 42), none, false, true, false⟩,
      ⟨some 44, .move (.tmp 8), some (some 43, true), false, true, false⟩,
      ⟨some 45, .binOp .eql 3 (.tmp 44) (.const (.int .i64 0)) 3, some (some 43, true), false, true, false⟩,
      ⟨some 46, .pick (.tmp 43) (.tmp 45) (.const (.bool false)), none, false, true, false⟩,
      ⟨some 47, .move (.tmp 46), none, false, true, false⟩,
      ⟨some 48, .move (.tmp 10), some (some 47, true), false, true, false⟩,
      ⟨some 49, .binOp .eql 3 (.tmp 48) (.const (.int .i64 0)) 3, some (some 47, true), false, true, false⟩,
      ⟨some 50, .pick (.tmp 47) (.tmp 49) (.const (.bool false)), none, false, true, false⟩,
      ⟨some 51, .move (.tmp 50), none, false, true, false⟩,
      ⟨some 52, .call ⟨.value (.func 13), #[], #[]⟩, some (some 51, true), false, true, false⟩,
      ⟨some 53, .pick (.tmp 51) (.tmp 52) (.const (.bool false)), none, false, true, false⟩,
      ⟨some 6, .assign (.tmp 53), none, false, true, false⟩])
    .ret)
    .skip))
  (.seq
  (.reg false [
    ⟨some 54, .move (.tmp 7), none, false, true, false⟩,
    ⟨some 55, .call ⟨.value (.func 16), #[.tmp 54], #[3]⟩, none, false, true, false⟩,
    ⟨some 56, .binOp .sub 3 (.tmp 55) (.const (.int .i64 1)) 3, none, false, true, false⟩,
    ⟨some 57, .convert 3 33 (.tmp 56), none, false, true, false⟩,
    ⟨some 58, .binOp .shl 3 (.const (.int .i64 (-1))) (.tmp 57) 33, none, false, true, false⟩,
    ⟨some 12, .assign (.tmp 58), none, false, true, false⟩])
  (.seq
  (.seq
  (.reg false [
    ⟨some 59, .move (.tmp 1), none, false, true, false⟩,
    ⟨some 60, .move (.tmp 12), none, false, true, false⟩,
    ⟨some 61, .binOp .eql 3 (.tmp 59) (.tmp 60) 3, none, false, true, false⟩,
    ⟨some 62, .move (.tmp 61), none, false, true, false⟩,
    ⟨some 63, .move (.tmp 2), some (some 62, true), false, true, false⟩,
    ⟨some 64, .binOp .eql 3 (.tmp 63) (.const (.int .i64 (-1))) 3, some (some 62, true), false, true, false⟩,
    ⟨some 65, .pick (.tmp 62) (.tmp 64) (.const (.bool false)), none, false, true, false⟩])
  (.cond (.tmp 65)
    (.seq
    (.reg false [
      ⟨some 66, .move (.tmp 9), none, false, true, false⟩,
      ⟨some 67, .binOp .eql 3 (.tmp 66) (.const (.int .i64 2)) 3, none, false, true, false⟩,
      ⟨some 68, .move (.tmp 67), none, false, true, false⟩,
      ⟨some 69, .move (.tmp 11), some (some 68, true), false, true, false⟩,
      ⟨some 70, .binOp .eql 3 (.tmp 69) (.const (.int .i64 0)) 3, some (some 68, true), false, true, false⟩,
      ⟨some 71, .pick (.tmp 68) (.tmp 70) (.const (.bool false)), none, false, true, false⟩,
      ⟨some 72, .move (.tmp 71), none, false, true, false⟩,
      ⟨some 73, .move (.tmp 8), some (some 72, true), false, true, false⟩,
      ⟨some 74, .binOp .eql 3 (.tmp 73) (.const (.int .i64 0)) 3, some (some 72, true), false, true, false⟩,
      ⟨some 75, .pick (.tmp 72) (.tmp 74) (.const (.bool false)), none, false, true, false⟩,
      ⟨some 76, .move (.tmp 75), none, false, true, false⟩,
      ⟨some 77, .move (.tmp 10), some (some 76, true), false, true, false⟩,
      ⟨some 78, .binOp .eql 3 (.tmp 77) (.const (.int .i64 0)) 3, some (some 76, true), false, true, false⟩,
      ⟨some 79, .pick (.tmp 76) (.tmp 78) (.const (.bool false)), none, false, true, false⟩,
      ⟨some 80, .move (.tmp 79), none, false, true, false⟩,
      ⟨some 81, .call ⟨.value (.func 13), #[], #[]⟩, some (some 80, true), false, true, false⟩,
      ⟨some 82, .pick (.tmp 80) (.tmp 81) (.const (.bool false)), none, false, true, false⟩,
      ⟨some 6, .assign (.tmp 82), none, false, true, false⟩])
    .ret)
    .skip))
  (.seq
  (.reg false [
    ⟨some 83, .move (.tmp 9), none, false, true, false⟩,
    ⟨some 84, .binOp .eql 3 (.tmp 83) (.const (.int .i64 0)) 3, none, false, true, false⟩,
    ⟨some 85, .move (.tmp 84), none, false, true, false⟩,
    ⟨some 86, .move (.tmp 11), some (some 85, true), false, true, false⟩,
    ⟨some 87, .binOp .eql 3 (.tmp 86) (.const (.int .i64 0)) 3, some (some 85, true), false, true, false⟩,
    ⟨some 88, .pick (.tmp 85) (.tmp 87) (.const (.bool false)), none, false, true, false⟩,
    ⟨some 89, .move (.tmp 88), none, false, true, false⟩,
    ⟨some 90, .move (.tmp 8), some (some 89, true), false, true, false⟩,
    ⟨some 91, .move (.tmp 2), some (some 89, true), false, true, false⟩,
    ⟨some 92, .binOp .mul 3 (.tmp 90) (.tmp 91) 3, some (some 89, true), false, true, false⟩,
    ⟨some 93, .move (.tmp 10), some (some 89, true), false, true, false⟩,
    ⟨some 94, .binOp .add 3 (.tmp 92) (.tmp 93) 3, some (some 89, true), false, true, false⟩,
    ⟨some 95, .move (.tmp 1), some (some 89, true), false, true, false⟩,
    ⟨some 96, .binOp .eql 3 (.tmp 94) (.tmp 95) 3, some (some 89, true), false, true, false⟩,
    ⟨some 97, .pick (.tmp 89) (.tmp 96) (.const (.bool false)), none, false, true, false⟩,
    ⟨some 98, .move (.tmp 97), none, false, true, false⟩,
    ⟨some 99, .move (.tmp 10), some (some 98, true), false, true, false⟩,
    ⟨some 100, .move (.tmp 2), some (some 98, true), false, true, false⟩,
    ⟨some 101, .call ⟨.value (.func 19), #[.tmp 99, .tmp 100], #[3, 3]⟩, some (some 98, true), false, true, false⟩,
    ⟨some 102, .pick (.tmp 98) (.tmp 101) (.const (.bool false)), none, false, true, false⟩,
    ⟨some 103, .move (.tmp 102), none, false, true, false⟩,
    ⟨some 104, .move (.tmp 10), some (some 103, true), false, true, false⟩,
    ⟨some 105, .binOp .eql 3 (.tmp 104) (.const (.int .i64 0)) 3, some (some 103, true), false, true, false⟩,
    ⟨some 106, .move (.tmp 105), some (some 103, true), false, true, false⟩,
    ⟨some 107, .move (.tmp 10), some (some 106, false), false, true, false⟩,
    ⟨some 108, .binOp .lss 3 (.tmp 107) (.const (.int .i64 0)) 3, some (some 106, false), false, true, false⟩,
    ⟨some 109, .move (.tmp 1), some (some 106, false), false, true, false⟩,
    ⟨some 110, .binOp .lss 3 (.tmp 109) (.const (.int .i64 0)) 3, some (some 106, false), false, true, false⟩,
    ⟨some 111, .binOp .eql 4 (.tmp 108) (.tmp 110) 4, some (some 106, false), false, true, false⟩,
    ⟨some 112, .pick (.tmp 106) (.const (.bool true)) (.tmp 111), some (some 103, true), false, true, false⟩,
    ⟨some 113, .pick (.tmp 103) (.tmp 112) (.const (.bool false)), none, false, true, false⟩,
    ⟨some 114, .move (.tmp 113), none, false, true, false⟩,
    ⟨some 115, .call ⟨.value (.func 13), #[], #[]⟩, some (some 114, true), false, true, false⟩,
    ⟨some 116, .pick (.tmp 114) (.tmp 115) (.const (.bool false)), none, false, true, false⟩,
    ⟨some 6, .assign (.tmp 116), none, false, true, false⟩])
  .ret))))))))))
def f7 : FI := ⟨c7, 117, [.tmp 6]⟩
theorem fn7 : AmEnv.fn 7 = some f7 := by kernel_rfl
/-- mortise/mortiselaw01.WordBits -/
def c8 : XC :=
  (.seq
  (.reg false [
    ⟨some 6, .assign (.const (.bool false)), none, false, true, false⟩])
  (.seq
  (.reg false [
    ⟨some 15, .move (.tmp 0), none, false, true, false⟩,
    ⟨some 16, .call ⟨.value (.func 10), #[.tmp 15], #[4]⟩, none, false, true, false⟩,
    ⟨some 7, .assign (.tmp 16), none, false, true, false⟩])
  (.seq
  (.reg false [
    ⟨some 17, .move (.tmp 7), none, false, true, false⟩,
    ⟨some 18, .call ⟨.value (.func 16), #[.tmp 17], #[3]⟩, none, false, true, false⟩,
    ⟨some 8, .assign (.tmp 18), none, false, true, false⟩])
  (.seq
  (.reg false [
    ⟨some 19, .move (.tmp 7), none, false, true, false⟩,
    ⟨some 20, .move (.tmp 1), none, false, true, false⟩,
    ⟨some 21, .move (.tmp 2), none, false, true, false⟩,
    ⟨some 22, .call ⟨.value (.func 11), #[.tmp 19, .const (.string ⟨#[43]⟩), .tmp 20, .tmp 21], #[3, 9, 3, 3]⟩, none, false, true, false⟩,
    ⟨some 9, .assign (.tmp 22), none, false, true, false⟩])
  (.seq
  (.reg false [
    ⟨some 23, .move (.tmp 7), none, false, true, false⟩,
    ⟨some 24, .move (.tmp 1), none, false, true, false⟩,
    ⟨some 25, .move (.tmp 2), none, false, true, false⟩,
    ⟨some 26, .call ⟨.value (.func 11), #[.tmp 23, .const (.string ⟨#[38]⟩), .tmp 24, .tmp 25], #[3, 9, 3, 3]⟩, none, false, true, false⟩,
    ⟨some 10, .assign (.tmp 26), none, false, true, false⟩])
  (.seq
  (.seq
  (.reg false [
    ⟨some 27, .move (.tmp 7), none, false, true, false⟩,
    ⟨some 28, .move (.tmp 7), none, false, true, false⟩,
    ⟨some 29, .move (.tmp 1), none, false, true, false⟩,
    ⟨some 30, .move (.tmp 2), none, false, true, false⟩,
    ⟨some 31, .call ⟨.value (.func 11), #[.tmp 28, .const (.string ⟨#[124]⟩), .tmp 29, .tmp 30], #[3, 9, 3, 3]⟩, none, false, true, false⟩,
    ⟨some 32, .move (.tmp 10), none, false, true, false⟩,
    ⟨some 33, .call ⟨.value (.func 11), #[.tmp 27, .const (.string ⟨#[43]⟩), .tmp 31, .tmp 32], #[3, 9, 3, 3]⟩, none, false, true, false⟩,
    ⟨some 34, .move (.tmp 9), none, false, true, false⟩,
    ⟨some 35, .binOp .neq 3 (.tmp 33) (.tmp 34) 3, none, false, true, false⟩,
    ⟨some 36, .move (.tmp 35), none, false, true, false⟩,
    ⟨some 37, .move (.tmp 7), some (some 36, false), false, true, false⟩,
    ⟨some 38, .move (.tmp 7), some (some 36, false), false, true, false⟩,
    ⟨some 39, .move (.tmp 1), some (some 36, false), false, true, false⟩,
    ⟨some 40, .move (.tmp 2), some (some 36, false), false, true, false⟩,
    ⟨some 41, .call ⟨.value (.func 11), #[.tmp 38, .const (.string ⟨#[94]⟩), .tmp 39, .tmp 40], #[3, 9, 3, 3]⟩, some (some 36, false), false, true, false⟩,
    ⟨some 42, .move (.tmp 7), some (some 36, false), false, true, false⟩,
    ⟨some 43, .move (.tmp 10), some (some 36, false), false, true, false⟩,
    ⟨some 44, .move (.tmp 10), some (some 36, false), false, true, false⟩,
    ⟨some 45, .call ⟨.value (.func 11), #[.tmp 42, .const (.string ⟨#[43]⟩), .tmp 43, .tmp 44], #[3, 9, 3, 3]⟩, some (some 36, false), false, true, false⟩,
    ⟨some 46, .call ⟨.value (.func 11), #[.tmp 37, .const (.string ⟨#[43]⟩), .tmp 41, .tmp 45], #[3, 9, 3, 3]⟩, some (some 36, false), false, true, false⟩,
    ⟨some 47, .move (.tmp 9), some (some 36, false), false, true, false⟩,
    ⟨some 48, .binOp .neq 3 (.tmp 46) (.tmp 47) 3, some (some 36, false), false, true, false⟩,
    ⟨some 49, .pick (.tmp 36) (.const (.bool true)) (.tmp 48), none, false, true, false⟩])
  (.cond (.tmp 49)
    (.seq
    (.reg false [
      ⟨some 6, .assign (.const (.bool false)), none, false, true, false⟩])
    .ret)
    .skip))
  (.seq
  (.seq
  (.reg false [
    ⟨some 50, .move (.tmp 7), none, false, true, false⟩,
    ⟨some 51, .move (.tmp 7), none, false, true, false⟩,
    ⟨some 52, .move (.tmp 1), none, false, true, false⟩,
    ⟨some 53, .move (.tmp 2), none, false, true, false⟩,
    ⟨some 54, .call ⟨.value (.func 11), #[.tmp 51, .const (.string ⟨#[94]⟩), .tmp 52, .tmp 53], #[3, 9, 3, 3]⟩, none, false, true, false⟩,
    ⟨some 55, .move (.tmp 2), none, false, true, false⟩,
    ⟨some 56, .call ⟨.value (.func 11), #[.tmp 50, .const (.string ⟨#[94]⟩), .tmp 54, .tmp 55], #[3, 9, 3, 3]⟩, none, false, true, false⟩,
    ⟨some 57, .move (.tmp 7), none, false, true, false⟩,
    ⟨some 58, .move (.tmp 1), none, false, true, false⟩,
    ⟨some 59, .call ⟨.value (.func 12), #[.tmp 57, .tmp 58], #[3, 3]⟩, none, false, true, false⟩,
    ⟨some 60, .binOp .neq 3 (.tmp 56) (.tmp 59) 3, none, false, true, false⟩,
    ⟨some 61, .move (.tmp 60), none, false, true, false⟩,
    ⟨some 62, .move (.tmp 7), some (some 61, false), false, true, false⟩,
    ⟨some 63, .move (.tmp 1), some (some 61, false), false, true, false⟩,
    ⟨some 64, .call ⟨.value (.func 11), #[.tmp 62, .const (.string ⟨#[38]⟩), .tmp 63, .const (.int .i64 (-1))], #[3, 9, 3, 3]⟩, some (some 61, false), false, true, false⟩,
    ⟨some 65, .move (.tmp 7), some (some 61, false), false, true, false⟩,
    ⟨some 66, .move (.tmp 1), some (some 61, false), false, true, false⟩,
    ⟨some 67, .call ⟨.value (.func 12), #[.tmp 65, .tmp 66], #[3, 3]⟩, some (some 61, false), false, true, false⟩,
    ⟨some 68, .binOp .neq 3 (.tmp 64) (.tmp 67) 3, some (some 61, false), false, true, false⟩,
    ⟨some 69, .pick (.tmp 61) (.const (.bool true)) (.tmp 68), none, false, true, false⟩,
    ⟨some 70, .move (.tmp 69), none, false, true, false⟩,
    ⟨some 71, .move (.tmp 7), some (some 70, false), false, true, false⟩,
    ⟨some 72, .move (.tmp 1), some (some 70, false), false, true, false⟩,
    ⟨some 73, .call ⟨.value (.func 11), #[.tmp 71, .const (.string ⟨#[124]⟩), .tmp 72, .const (.int .i64 0)], #[3, 9, 3, 3]⟩, some (some 70, false), false, true, false⟩,
    ⟨some 74, .move (.tmp 7), some (some 70, false), false, true, false⟩,
    ⟨some 75, .move (.tmp 1), some (some 70, false), false, true, false⟩,
    ⟨some 76, .call ⟨.value (.func 12), #[.tmp 74, .tmp 75], #[3, 3]⟩, some (some 70, false), false, true, false⟩,
    ⟨some 77, .binOp .neq 3 (.tmp 73) (.tmp 76) 3, some (some 70, false), false, true, false⟩,
    ⟨some 78, .pick (.tmp 70) (.const (.bool true)) (.tmp 77), none, false, true, false⟩])
  (.cond (.tmp 78)
    (.seq
    (.reg false [
      ⟨some 6, .assign (.const (.bool false)), none, false, true, false⟩])
    .ret)
    .skip))
  (.seq
  (.reg false [
    ⟨some 79, .move (.tmp 7), none, false, true, false⟩,
    ⟨some 80, .move (.tmp 1), none, false, true, false⟩,
    ⟨some 81, .call ⟨.value (.func 12), #[.tmp 79, .tmp 80], #[3, 3]⟩, none, false, true, false⟩,
    ⟨some 11, .assign (.tmp 81), none, false, true, false⟩])
  (.seq
  (.reg false [
    ⟨some 82, .move (.tmp 11), none, false, true, false⟩,
    ⟨some 12, .assign (.tmp 82), none, false, true, false⟩])
  (.seq
  (.seq
  (.reg false [
    ⟨some 13, .assign (.const (.int .i64 0)), none, false, true, false⟩])
  (.block 0
    (.loop
      (.seq
      (.seq
      (.reg false [
        ⟨some 83, .move (.tmp 13), none, false, true, false⟩,
        ⟨some 84, .move (.tmp 8), none, false, true, false⟩,
        ⟨some 85, .binOp .lss 3 (.tmp 83) (.tmp 84) 3, none, false, true, false⟩])
      (.cond (.tmp 85)
        .skip
        (.exit 0)))
      (.seq
      (.block 1
        (.seq
        (.seq
        (.reg false [
          ⟨some 88, .move (.tmp 7), none, false, true, false⟩,
          ⟨some 89, .move (.tmp 1), none, false, true, false⟩,
          ⟨some 90, .move (.tmp 13), none, false, true, false⟩,
          ⟨some 91, .call ⟨.value (.func 11), #[.tmp 88, .const (.string ⟨#[60, 60]⟩), .tmp 89, .tmp 90], #[3, 9, 3, 3]⟩, none, false, true, false⟩,
          ⟨some 92, .move (.tmp 11), none, false, true, false⟩,
          ⟨some 93, .binOp .neq 3 (.tmp 91) (.tmp 92) 3, none, false, true, false⟩,
          ⟨some 94, .move (.tmp 93), none, false, true, false⟩,
          ⟨some 95, .move (.tmp 7), some (some 94, false), false, true, false⟩,
          ⟨some 96, .move (.tmp 1), some (some 94, false), false, true, false⟩,
          ⟨some 97, .move (.tmp 13), some (some 94, false), false, true, false⟩,
          ⟨some 98, .call ⟨.value (.func 11), #[.tmp 95, .const (.string ⟨#[62, 62]⟩), .tmp 96, .tmp 97], #[3, 9, 3, 3]⟩, some (some 94, false), false, true, false⟩,
          ⟨some 99, .move (.tmp 12), some (some 94, false), false, true, false⟩,
          ⟨some 100, .binOp .neq 3 (.tmp 98) (.tmp 99) 3, some (some 94, false), false, true, false⟩,
          ⟨some 101, .pick (.tmp 94) (.const (.bool true)) (.tmp 100), none, false, true, false⟩,
          ⟨some 102, .move (.tmp 101), none, false, true, false⟩,
          ⟨some 103, .move (.tmp 7), some (some 102, false), false, true, false⟩,
          ⟨some 104, .move (.tmp 1), some (some 102, false), false, true, false⟩,
          ⟨some 105, .move (.tmp 13), some (some 102, false), false, true, false⟩,
          ⟨some 106, .move (.tmp 8), some (some 102, false), false, true, false⟩,
          ⟨some 107, .binOp .add 3 (.tmp 105) (.tmp 106) 3, some (some 102, false), false, true, false⟩,
          ⟨some 108, .call ⟨.value (.func 11), #[.tmp 103, .const (.string ⟨#[60, 60]⟩), .tmp 104, .tmp 107], #[3, 9, 3, 3]⟩, some (some 102, false), false, true, false⟩,
          ⟨some 109, .move (.tmp 11), some (some 102, false), false, true, false⟩,
          ⟨some 110, .binOp .neq 3 (.tmp 108) (.tmp 109) 3, some (some 102, false), false, true, false⟩,
          ⟨some 111, .pick (.tmp 102) (.const (.bool true)) (.tmp 110), none, false, true, false⟩,
          ⟨some 112, .move (.tmp 111), none, false, true, false⟩,
          ⟨some 113, .move (.tmp 7), some (some 112, false), false, true, false⟩,
          ⟨some 114, .move (.tmp 1), some (some 112, false), false, true, false⟩,
          ⟨some 115, .move (.tmp 13), some (some 112, false), false, true, false⟩,
          ⟨some 116, .move (.tmp 8), some (some 112, false), false, true, false⟩,
          ⟨some 117, .binOp .sub 3 (.tmp 115) (.tmp 116) 3, some (some 112, false), false, true, false⟩,
          ⟨some 118, .call ⟨.value (.func 11), #[.tmp 113, .const (.string ⟨#[62, 62]⟩), .tmp 114, .tmp 117], #[3, 9, 3, 3]⟩, some (some 112, false), false, true, false⟩,
          ⟨some 119, .move (.tmp 12), some (some 112, false), false, true, false⟩,
          ⟨some 120, .binOp .neq 3 (.tmp 118) (.tmp 119) 3, some (some 112, false), false, true, false⟩,
          ⟨some 121, .pick (.tmp 112) (.const (.bool true)) (.tmp 120), none, false, true, false⟩])
        (.cond (.tmp 121)
          (.seq
          (.reg false [
            ⟨some 6, .assign (.const (.bool false)), none, false, true, false⟩])
          .ret)
          .skip))
        (.seq
        (.reg false [
          ⟨some 122, .move (.tmp 7), none, false, true, false⟩,
          ⟨some 123, .move (.tmp 11), none, false, true, false⟩,
          ⟨some 124, .move (.tmp 11), none, false, true, false⟩,
          ⟨some 125, .call ⟨.value (.func 11), #[.tmp 122, .const (.string ⟨#[43]⟩), .tmp 123, .tmp 124], #[3, 9, 3, 3]⟩, none, false, true, false⟩,
          ⟨some 11, .assign (.tmp 125), none, false, true, false⟩])
        (.seq
        (.reg false [
          ⟨some 126, .move (.tmp 7), none, false, true, false⟩,
          ⟨some 127, .move (.tmp 12), none, false, true, false⟩,
          ⟨some 128, .call ⟨.value (.func 11), #[.tmp 126, .const (.string ⟨#[38]⟩), .tmp 127, .const (.int .i64 1)], #[3, 9, 3, 3]⟩, none, false, true, false⟩,
          ⟨some 14, .assign (.tmp 128), none, false, true, false⟩])
        (.reg false [
          ⟨some 129, .move (.tmp 12), none, false, true, false⟩,
          ⟨some 130, .move (.tmp 14), none, false, true, false⟩,
          ⟨some 131, .binOp .sub 3 (.tmp 129) (.tmp 130) 3, none, false, true, false⟩,
          ⟨some 132, .binOp .quo 3 (.tmp 131) (.const (.int .i64 2)) 3, none, false, true, false⟩,
          ⟨some 12, .assign (.tmp 132), none, false, true, false⟩])))))
      (.reg false [
        ⟨some 86, .move (.tmp 13), none, false, true, false⟩,
        ⟨some 87, .binOp .add 3 (.tmp 86) (.const (.int .i64 1)) 3, none, false, true, false⟩,
        ⟨some 13, .assign (.tmp 87), none, false, true, false⟩]))))))
  (.seq
  (.reg false [
    ⟨some 133, .call ⟨.value (.func 13), #[], #[]⟩, none, false, true, false⟩,
    ⟨some 6, .assign (.tmp 133), none, false, true, false⟩])
  .ret)))))))))))
def f8 : FI := ⟨c8, 134, [.tmp 6]⟩
theorem fn8 : AmEnv.fn 8 = some f8 := by kernel_rfl
/-- mortise/mortiselaw01.WordKnown -/
def c9 : XC :=
  (.seq
  (.reg false [
    ⟨some 0, .assign (.const (.bool false)), none, false, true, false⟩])
  (.seq
  (.reg false [
    ⟨some 15, .buildSlice 36 32 #[(0, .const (.int .i64 (-9223372036854775808))), (1, .const (.int .i64 (-9223372036854775807))), (2, .const (.int .i64 (-4294967297))), (3, .const (.int .i64 (-4294967296))), (4, .const (.int .i64 (-2147483649))), (5, .const (.int .i64 (-2147483648))), (6, .const (.int .i64 (-2147483647))), (7, .const (.int .i64 (-129))), (8, .const (.int .i64 (-128))), (9, .const (.int .i64 (-7))), (10, .const (.int .i64 (-2))), (11, .const (.int .i64 (-1))), (12, .const (.int .i64 0)), (13, .const (.int .i64 1)), (14, .const (.int .i64 2)), (15, .const (.int .i64 7)), (16, .const (.int .i64 31)), (17, .const (.int .i64 32)), (18, .const (.int .i64 33)), (19, .const (.int .i64 63)), (20, .const (.int .i64 64)), (21, .const (.int .i64 127)), (22, .const (.int .i64 128)), (23, .const (.int .i64 200)), (24, .const (.int .i64 255)), (25, .const (.int .i64 256)), (26, .const (.int .i64 2147483647)), (27, .const (.int .i64 2147483648)), (28, .const (.int .i64 4294967295)), (29, .const (.int .i64 4294967296)), (30, .const (.int .i64 4611686018427387909)), (31, .const (.int .i64 9223372036854775807))], none, false, true, false⟩,
    ⟨some 1, .assign (.tmp 15), none, false, true, false⟩])
  (.seq
  (.reg false [
    ⟨some 16, .call ⟨.value (.func 20), #[], #[]⟩, none, false, true, false⟩,
    ⟨some 17, .buildSlice 23 3 #[(0, .const (.string ⟨#[]⟩)), (1, .const (.string ⟨#[63]⟩)), (2, .const (.string ⟨#[43, 32]⟩))], none, false, true, false⟩,
    ⟨some 18, .call ⟨.builtin .append, #[.tmp 16, .tmp 17], #[23, 23]⟩, none, false, true, false⟩,
    ⟨some 2, .assign (.tmp 18), none, false, true, false⟩])
  (.seq
  (.seq
  (.reg false [
    ⟨some 3, .assign (.const (.int .i64 0)), none, false, true, false⟩])
  (.block 0
    (.loop
      (.seq
      (.seq
      (.reg false [
        ⟨some 19, .move (.tmp 3), none, false, true, false⟩,
        ⟨some 20, .move (.tmp 1), none, false, true, false⟩,
        ⟨some 21, .call ⟨.builtin .len, #[.tmp 20], #[36]⟩, none, false, true, false⟩,
        ⟨some 22, .binOp .lss 3 (.tmp 19) (.tmp 21) 3, none, false, true, false⟩])
      (.cond (.tmp 22)
        .skip
        (.exit 0)))
      (.seq
      (.block 1
        (.seq
        (.seq
        (.reg false [
          ⟨some 4, .assign (.const (.int .i64 0)), none, false, true, false⟩])
        (.block 2
          (.loop
            (.seq
            (.seq
            (.reg false [
              ⟨some 25, .move (.tmp 4), none, false, true, false⟩,
              ⟨some 26, .move (.tmp 1), none, false, true, false⟩,
              ⟨some 27, .call ⟨.builtin .len, #[.tmp 26], #[36]⟩, none, false, true, false⟩,
              ⟨some 28, .binOp .lss 3 (.tmp 25) (.tmp 27) 3, none, false, true, false⟩])
            (.cond (.tmp 28)
              .skip
              (.exit 2)))
            (.seq
            (.block 3
              (.seq
              (.seq
              (.reg false [
                ⟨some 5, .assign (.const (.int .i64 (-1))), none, false, true, false⟩])
              (.block 4
                (.loop
                  (.seq
                  (.seq
                  (.reg false [
                    ⟨some 31, .move (.tmp 5), none, false, true, false⟩,
                    ⟨some 32, .binOp .lss 3 (.tmp 31) (.const (.int .i64 5)) 3, none, false, true, false⟩])
                  (.cond (.tmp 32)
                    .skip
                    (.exit 4)))
                  (.seq
                  (.block 5
                    (.seq
                    (.seq
                    (.reg false [
                      ⟨some 6, .assign (.const (.int .i64 0)), none, false, true, false⟩])
                    (.block 6
                      (.loop
                        (.seq
                        (.seq
                        (.reg false [
                          ⟨some 35, .move (.tmp 6), none, false, true, false⟩,
                          ⟨some 36, .move (.tmp 2), none, false, true, false⟩,
                          ⟨some 37, .call ⟨.builtin .len, #[.tmp 36], #[23]⟩, none, false, true, false⟩,
                          ⟨some 38, .binOp .lss 3 (.tmp 35) (.tmp 37) 3, none, false, true, false⟩])
                        (.cond (.tmp 38)
                          .skip
                          (.exit 6)))
                        (.seq
                        (.block 7
                          (.seq
                          (.reg true [
                            ⟨some 41, .move (.tmp 5), none, false, false, false⟩,
                            ⟨some 42, .move (.tmp 2), none, false, false, false⟩,
                            ⟨some 43, .move (.tmp 6), none, false, false, false⟩,
                            ⟨some 44, .indexAddr 23 (.tmp 42) (.tmp 43), none, false, false, false⟩,
                            ⟨some 45, .load 9 (.tmp 44), none, false, false, false⟩,
                            ⟨some 46, .move (.tmp 1), none, false, false, false⟩,
                            ⟨some 47, .move (.tmp 3), none, false, false, false⟩,
                            ⟨some 48, .indexAddr 36 (.tmp 46) (.tmp 47), none, false, false, false⟩,
                            ⟨some 49, .load 3 (.tmp 48), none, false, false, false⟩,
                            ⟨some 50, .move (.tmp 1), none, false, false, false⟩,
                            ⟨some 51, .move (.tmp 4), none, false, true, false⟩,
                            ⟨some 52, .indexAddr 36 (.tmp 50) (.tmp 51), none, false, true, false⟩,
                            ⟨some 53, .load 3 (.tmp 52), none, false, true, false⟩,
                            ⟨some 54, .call ⟨.value (.func 5), #[.tmp 41, .tmp 45, .tmp 49, .tmp 53], #[3, 9, 3, 3]⟩, none, false, true, false⟩,
                            ⟨some 55, .unOp .not 4 (.tmp 54), none, false, true, false⟩])
                          (.cond (.tmp 55)
                            (.seq
                            (.reg false [
                              ⟨some 0, .assign (.const (.bool false)), none, false, true, false⟩])
                            .ret)
                            .skip)))
                        (.reg false [
                          ⟨some 39, .move (.tmp 6), none, false, true, false⟩,
                          ⟨some 40, .binOp .add 3 (.tmp 39) (.const (.int .i64 1)) 3, none, false, true, false⟩,
                          ⟨some 6, .assign (.tmp 40), none, false, true, false⟩]))))))
                    (.seq
                    (.reg true [
                      ⟨some 56, .move (.tmp 5), none, false, false, false⟩,
                      ⟨some 57, .move (.tmp 1), none, false, false, false⟩,
                      ⟨some 58, .move (.tmp 3), none, false, false, false⟩,
                      ⟨some 59, .indexAddr 36 (.tmp 57) (.tmp 58), none, false, false, false⟩,
                      ⟨some 60, .load 3 (.tmp 59), none, false, false, false⟩,
                      ⟨some 61, .move (.tmp 4), none, false, false, false⟩,
                      ⟨some 62, .move (.tmp 2), none, false, false, false⟩,
                      ⟨some 63, .move (.tmp 4), none, false, false, false⟩,
                      ⟨some 64, .move (.tmp 2), none, false, false, false⟩,
                      ⟨some 65, .call ⟨.builtin .len, #[.tmp 64], #[23]⟩, none, false, false, false⟩,
                      ⟨some 66, .binOp .rem 3 (.tmp 63) (.tmp 65) 3, none, false, false, false⟩,
                      ⟨some 67, .indexAddr 23 (.tmp 62) (.tmp 66), none, false, false, false⟩,
                      ⟨some 68, .load 9 (.tmp 67), none, false, false, false⟩,
                      ⟨some 69, .move (.tmp 1), none, false, false, false⟩,
                      ⟨some 70, .move (.tmp 4), none, false, true, false⟩,
                      ⟨some 71, .indexAddr 36 (.tmp 69) (.tmp 70), none, false, true, false⟩,
                      ⟨some 72, .load 3 (.tmp 71), none, false, true, false⟩,
                      ⟨some 73, .call ⟨.value (.func 6), #[.tmp 56, .tmp 60, .tmp 61, .tmp 68, .tmp 72], #[3, 3, 3, 9, 3]⟩, none, false, true, false⟩,
                      ⟨some 74, .unOp .not 4 (.tmp 73), none, false, true, false⟩])
                    (.cond (.tmp 74)
                      (.seq
                      (.reg false [
                        ⟨some 0, .assign (.const (.bool false)), none, false, true, false⟩])
                      .ret)
                      .skip))))
                  (.reg false [
                    ⟨some 33, .move (.tmp 5), none, false, true, false⟩,
                    ⟨some 34, .binOp .add 3 (.tmp 33) (.const (.int .i64 1)) 3, none, false, true, false⟩,
                    ⟨some 5, .assign (.tmp 34), none, false, true, false⟩]))))))
              (.seq
              (.reg true [
                ⟨some 75, .move (.tmp 3), none, false, false, false⟩,
                ⟨some 76, .binOp .rem 3 (.tmp 75) (.const (.int .i64 2)) 3, none, false, false, false⟩,
                ⟨some 77, .binOp .eql 3 (.tmp 76) (.const (.int .i64 0)) 3, none, false, false, false⟩,
                ⟨some 78, .move (.tmp 1), none, false, false, false⟩,
                ⟨some 79, .move (.tmp 3), none, false, false, false⟩,
                ⟨some 80, .indexAddr 36 (.tmp 78) (.tmp 79), none, false, false, false⟩,
                ⟨some 81, .load 3 (.tmp 80), none, false, false, false⟩,
                ⟨some 82, .move (.tmp 1), none, false, false, false⟩,
                ⟨some 83, .move (.tmp 4), none, false, true, false⟩,
                ⟨some 84, .indexAddr 36 (.tmp 82) (.tmp 83), none, false, true, false⟩,
                ⟨some 85, .load 3 (.tmp 84), none, false, true, false⟩,
                ⟨some 86, .call ⟨.value (.func 7), #[.tmp 77, .tmp 81, .tmp 85], #[4, 3, 3]⟩, none, false, true, false⟩,
                ⟨some 87, .unOp .not 4 (.tmp 86), none, false, true, false⟩,
                ⟨some 88, .move (.tmp 87), none, false, true, false⟩,
                ⟨some 89, .move (.tmp 4), some (some 88, false), false, false, false⟩,
                ⟨some 90, .binOp .rem 3 (.tmp 89) (.const (.int .i64 2)) 3, some (some 88, false), false, false, false⟩,
                ⟨some 91, .binOp .eql 3 (.tmp 90) (.const (.int .i64 0)) 3, some (some 88, false), false, false, false⟩,
                ⟨some 92, .move (.tmp 1), some (some 88, false), false, false, false⟩,
                ⟨some 93, .move (.tmp 3), some (some 88, false), false, false, false⟩,
                ⟨some 94, .indexAddr 36 (.tmp 92) (.tmp 93), some (some 88, false), false, false, false⟩,
                ⟨some 95, .load 3 (.tmp 94), some (some 88, false), false, false, false⟩,
                ⟨some 96, .move (.tmp 1), some (some 88, false), false, false, false⟩,
                ⟨some 97, .move (.tmp 4), some (some 88, false), false, true, false⟩,
                ⟨some 98, .indexAddr 36 (.tmp 96) (.tmp 97), some (some 88, false), false, true, false⟩,
                ⟨some 99, .load 3 (.tmp 98), some (some 88, false), false, true, false⟩,
                ⟨some 100, .call ⟨.value (.func 4), #[.tmp 91, .tmp 95, .tmp 99], #[4, 3, 3]⟩, some (some 88, false), false, true, false⟩,
                ⟨some 101, .unOp .not 4 (.tmp 100), some (some 88, false), false, true, false⟩,
                ⟨some 102, .pick (.tmp 88) (.const (.bool true)) (.tmp 101), none, false, true, false⟩,
                ⟨some 103, .move (.tmp 102), none, false, true, false⟩,
                ⟨some 104, .move (.tmp 3), some (some 103, false), false, false, false⟩,
                ⟨some 105, .binOp .rem 3 (.tmp 104) (.const (.int .i64 2)) 3, some (some 103, false), false, false, false⟩,
                ⟨some 106, .binOp .eql 3 (.tmp 105) (.const (.int .i64 0)) 3, some (some 103, false), false, false, false⟩,
                ⟨some 107, .move (.tmp 1), some (some 103, false), false, false, false⟩,
                ⟨some 108, .move (.tmp 3), some (some 103, false), false, false, false⟩,
                ⟨some 109, .indexAddr 36 (.tmp 107) (.tmp 108), some (some 103, false), false, false, false⟩,
                ⟨some 110, .load 3 (.tmp 109), some (some 103, false), false, false, false⟩,
                ⟨some 111, .move (.tmp 1), some (some 103, false), false, false, false⟩,
                ⟨some 112, .move (.tmp 4), some (some 103, false), false, true, false⟩,
                ⟨some 113, .indexAddr 36 (.tmp 111) (.tmp 112), some (some 103, false), false, true, false⟩,
                ⟨some 114, .load 3 (.tmp 113), some (some 103, false), false, true, false⟩,
                ⟨some 115, .call ⟨.value (.func 3), #[.tmp 106, .tmp 110, .tmp 114, .const (.int .i64 3)], #[4, 3, 3, 3]⟩, some (some 103, false), false, true, false⟩,
                ⟨some 116, .unOp .not 4 (.tmp 115), some (some 103, false), false, true, false⟩,
                ⟨some 117, .pick (.tmp 103) (.const (.bool true)) (.tmp 116), none, false, true, false⟩])
              (.cond (.tmp 117)
                (.seq
                (.reg false [
                  ⟨some 0, .assign (.const (.bool false)), none, false, true, false⟩])
                .ret)
                .skip))))
            (.reg false [
              ⟨some 29, .move (.tmp 4), none, false, true, false⟩,
              ⟨some 30, .binOp .add 3 (.tmp 29) (.const (.int .i64 1)) 3, none, false, true, false⟩,
              ⟨some 4, .assign (.tmp 30), none, false, true, false⟩]))))))
        (.seq
        (.reg true [
          ⟨some 118, .move (.tmp 1), none, false, false, false⟩,
          ⟨some 119, .move (.tmp 3), none, false, true, false⟩,
          ⟨some 120, .indexAddr 36 (.tmp 118) (.tmp 119), none, false, true, false⟩,
          ⟨some 121, .load 3 (.tmp 120), none, false, true, false⟩,
          ⟨some 122, .call ⟨.value (.func 8), #[.const (.bool true), .tmp 121, .const (.int .i64 5)], #[4, 3, 3]⟩, none, false, true, false⟩,
          ⟨some 123, .unOp .not 4 (.tmp 122), none, false, true, false⟩,
          ⟨some 124, .move (.tmp 123), none, false, true, false⟩,
          ⟨some 125, .move (.tmp 1), some (some 124, false), false, false, false⟩,
          ⟨some 126, .move (.tmp 3), some (some 124, false), false, false, false⟩,
          ⟨some 127, .indexAddr 36 (.tmp 125) (.tmp 126), some (some 124, false), false, false, false⟩,
          ⟨some 128, .load 3 (.tmp 127), some (some 124, false), false, false, false⟩,
          ⟨some 129, .move (.tmp 1), some (some 124, false), false, false, false⟩,
          ⟨some 130, .move (.tmp 1), some (some 124, false), false, false, false⟩,
          ⟨some 131, .call ⟨.builtin .len, #[.tmp 130], #[36]⟩, some (some 124, false), false, false, false⟩,
          ⟨some 132, .binOp .sub 3 (.tmp 131) (.const (.int .i64 1)) 3, some (some 124, false), false, false, false⟩,
          ⟨some 133, .move (.tmp 3), some (some 124, false), false, true, false⟩,
          ⟨some 134, .binOp .sub 3 (.tmp 132) (.tmp 133) 3, some (some 124, false), false, true, false⟩,
          ⟨some 135, .indexAddr 36 (.tmp 129) (.tmp 134), some (some 124, false), false, true, false⟩,
          ⟨some 136, .load 3 (.tmp 135), some (some 124, false), false, true, false⟩,
          ⟨some 137, .call ⟨.value (.func 8), #[.const (.bool false), .tmp 128, .tmp 136], #[4, 3, 3]⟩, some (some 124, false), false, true, false⟩,
          ⟨some 138, .unOp .not 4 (.tmp 137), some (some 124, false), false, true, false⟩,
          ⟨some 139, .pick (.tmp 124) (.const (.bool true)) (.tmp 138), none, false, true, false⟩])
        (.cond (.tmp 139)
          (.seq
          (.reg false [
            ⟨some 0, .assign (.const (.bool false)), none, false, true, false⟩])
          .ret)
          .skip))))
      (.reg false [
        ⟨some 23, .move (.tmp 3), none, false, true, false⟩,
        ⟨some 24, .binOp .add 3 (.tmp 23) (.const (.int .i64 1)) 3, none, false, true, false⟩,
        ⟨some 3, .assign (.tmp 24), none, false, true, false⟩]))))))
  (.seq
  (.reg false [
    ⟨some 141, .call ⟨.value (.func 14), #[.const (.int .i64 1), .const (.string ⟨#[60, 60]⟩), .const (.int .i64 1), .const (.int .i64 33)], #[3, 9, 3, 3]⟩, none, false, true, false⟩,
    ⟨some 140, .move (.tmp 141), none, false, true, false⟩,
    ⟨some 142, .extract (.tmp 140) 0, none, false, true, false⟩,
    ⟨some 143, .extract (.tmp 140) 1, none, false, true, false⟩,
    ⟨some 7, .assign (.tmp 142), none, false, true, false⟩,
    ⟨some 8, .assign (.tmp 143), none, false, true, false⟩])
  (.seq
  (.reg false [
    ⟨some 145, .call ⟨.value (.func 14), #[.const (.int .i64 1), .const (.string ⟨#[62, 62]⟩), .const (.int .i64 (-5)), .const (.int .i64 (-1))], #[3, 9, 3, 3]⟩, none, false, true, false⟩,
    ⟨some 144, .move (.tmp 145), none, false, true, false⟩,
    ⟨some 146, .extract (.tmp 144) 0, none, false, true, false⟩,
    ⟨some 147, .extract (.tmp 144) 1, none, false, true, false⟩,
    ⟨some 9, .assign (.tmp 146), none, false, true, false⟩,
    ⟨some 10, .assign (.tmp 147), none, false, true, false⟩])
  (.seq
  (.reg false [
    ⟨some 149, .call ⟨.value (.func 14), #[.const (.int .i64 1), .const (.string ⟨#[37]⟩), .const (.int .i64 (-7)), .const (.int .i64 2)], #[3, 9, 3, 3]⟩, none, false, true, false⟩,
    ⟨some 148, .move (.tmp 149), none, false, true, false⟩,
    ⟨some 150, .extract (.tmp 148) 0, none, false, true, false⟩,
    ⟨some 151, .extract (.tmp 148) 1, none, false, true, false⟩,
    ⟨some 11, .assign (.tmp 150), none, false, true, false⟩,
    ⟨some 12, .assign (.tmp 151), none, false, true, false⟩])
  (.seq
  (.reg false [
    ⟨some 153, .call ⟨.value (.func 14), #[.const (.int .i64 2), .const (.string ⟨#[43]⟩), .const (.int .i64 2147483647), .const (.int .i64 1)], #[3, 9, 3, 3]⟩, none, false, true, false⟩,
    ⟨some 152, .move (.tmp 153), none, false, true, false⟩,
    ⟨some 154, .extract (.tmp 152) 0, none, false, true, false⟩,
    ⟨some 155, .extract (.tmp 152) 1, none, false, true, false⟩,
    ⟨some 13, .assign (.tmp 154), none, false, true, false⟩,
    ⟨some 14, .assign (.tmp 155), none, false, true, false⟩])
  (.seq
  (.reg false [
    ⟨some 156, .move (.tmp 7), none, false, true, false⟩,
    ⟨some 157, .binOp .eql 3 (.tmp 156) (.const (.int .i64 2)) 3, none, false, true, false⟩,
    ⟨some 158, .move (.tmp 157), none, false, true, false⟩,
    ⟨some 159, .move (.tmp 9), some (some 158, true), false, true, false⟩,
    ⟨some 160, .binOp .eql 3 (.tmp 159) (.const (.int .i64 (-1))) 3, some (some 158, true), false, true, false⟩,
    ⟨some 161, .pick (.tmp 158) (.tmp 160) (.const (.bool false)), none, false, true, false⟩,
    ⟨some 162, .move (.tmp 161), none, false, true, false⟩,
    ⟨some 163, .move (.tmp 11), some (some 162, true), false, true, false⟩,
    ⟨some 164, .binOp .eql 3 (.tmp 163) (.const (.int .i64 (-1))) 3, some (some 162, true), false, true, false⟩,
    ⟨some 165, .pick (.tmp 162) (.tmp 164) (.const (.bool false)), none, false, true, false⟩,
    ⟨some 166, .move (.tmp 165), none, false, true, false⟩,
    ⟨some 167, .move (.tmp 13), some (some 166, true), false, true, false⟩,
    ⟨some 168, .binOp .eql 3 (.tmp 167) (.const (.int .i64 2147483648)) 3, some (some 166, true), false, true, false⟩,
    ⟨some 169, .pick (.tmp 166) (.tmp 168) (.const (.bool false)), none, false, true, false⟩,
    ⟨some 170, .move (.tmp 169), none, false, true, false⟩,
    ⟨some 171, .move (.tmp 14), some (some 170, true), false, true, false⟩,
    ⟨some 172, .binOp .eql 3 (.tmp 171) (.const (.int .i64 0)) 3, some (some 170, true), false, true, false⟩,
    ⟨some 173, .pick (.tmp 170) (.tmp 172) (.const (.bool false)), none, false, true, false⟩,
    ⟨some 174, .move (.tmp 173), none, false, true, false⟩,
    ⟨some 175, .call ⟨.value (.func 13), #[], #[]⟩, some (some 174, true), false, true, false⟩,
    ⟨some 176, .pick (.tmp 174) (.tmp 175) (.const (.bool false)), none, false, true, false⟩,
    ⟨some 0, .assign (.tmp 176), none, false, true, false⟩])
  .ret)))))))))
def f9 : FI := ⟨c9, 177, [.tmp 0]⟩
theorem fn9 : AmEnv.fn 9 = some f9 := by kernel_rfl
/-- mortise/mortiselaw01.kind -/
def c10 : XC :=
  (.seq
  (.reg false [
    ⟨some 2, .assign (.const (.int .i64 0)), none, false, true, false⟩])
  (.seq
  (.seq
  (.reg false [
    ⟨some 3, .move (.tmp 0), none, false, true, false⟩])
  (.cond (.tmp 3)
    (.seq
    (.reg false [
      ⟨some 2, .assign (.const (.int .i64 2)), none, false, true, false⟩])
    .ret)
    .skip))
  (.seq
  (.reg false [
    ⟨some 2, .assign (.const (.int .i64 1)), none, false, true, false⟩])
  .ret)))
def f10 : FI := ⟨c10, 4, [.tmp 2]⟩
theorem fn10 : AmEnv.fn 10 = some f10 := by kernel_rfl
/-- mortise/mortiselaw01.bin -/
def c11 : XC :=
  (.seq
  (.reg false [
    ⟨some 8, .assign (.const (.int .i64 0)), none, false, true, false⟩])
  (.seq
  (.reg false [
    ⟨some 12, .move (.tmp 0), none, false, true, false⟩,
    ⟨some 13, .move (.tmp 1), none, false, true, false⟩,
    ⟨some 14, .move (.tmp 2), none, false, true, false⟩,
    ⟨some 15, .move (.tmp 3), none, false, true, false⟩,
    ⟨some 16, .call ⟨.value (.func 14), #[.tmp 12, .tmp 13, .tmp 14, .tmp 15], #[3, 9, 3, 3]⟩, none, false, true, false⟩,
    ⟨some 11, .move (.tmp 16), none, false, true, false⟩,
    ⟨some 17, .extract (.tmp 11) 0, none, false, true, false⟩,
    ⟨some 18, .extract (.tmp 11) 1, none, false, true, false⟩,
    ⟨some 9, .assign (.tmp 17), none, false, true, false⟩,
    ⟨some 10, .assign (.tmp 18), none, false, true, false⟩])
  (.seq
  (.seq
  (.reg false [
    ⟨some 19, .move (.tmp 10), none, false, true, false⟩,
    ⟨some 20, .binOp .neq 3 (.tmp 19) (.const (.int .i64 0)) 3, none, false, true, false⟩])
  (.cond (.tmp 20)
    (.seq
    (.reg false [
      ⟨some 8, .assign (.const (.int .i64 (-1))), none, false, true, false⟩])
    .ret)
    .skip))
  (.seq
  (.reg false [
    ⟨some 21, .move (.tmp 9), none, false, true, false⟩,
    ⟨some 8, .assign (.tmp 21), none, false, true, false⟩])
  .ret))))
def f11 : FI := ⟨c11, 22, [.tmp 8]⟩
theorem fn11 : AmEnv.fn 11 = some f11 := by kernel_rfl
/-- mortise/word.Wrap -/
def c12 : XC :=
  (.seq
  (.reg false [
    ⟨some 4, .assign (.const (.int .i64 0)), none, false, true, false⟩])
  (.seq
  (.seq
  (.reg false [
    ⟨some 5, .move (.tmp 0), none, false, true, false⟩])
  (.block 0
    (.seq
    (.reg false [
      ⟨some 7, .binOp .eql 3 (.tmp 5) (.const (.int .i64 3)) 3, none, false, true, false⟩,
      ⟨some 6, .assign (.tmp 7), none, false, true, false⟩])
    (.cond (.tmp 6)
      (.seq
      (.reg false [
        ⟨some 8, .move (.tmp 1), none, false, true, false⟩,
        ⟨some 9, .convert 3 38 (.tmp 8), none, false, true, false⟩,
        ⟨some 10, .convert 38 3 (.tmp 9), none, false, true, false⟩,
        ⟨some 4, .assign (.tmp 10), none, false, true, false⟩])
      .ret)
      (.seq
      (.reg false [
        ⟨some 12, .binOp .eql 3 (.tmp 5) (.const (.int .i64 1)) 3, none, false, true, false⟩,
        ⟨some 11, .assign (.tmp 12), none, false, true, false⟩])
      (.cond (.tmp 11)
        (.seq
        (.reg false [
          ⟨some 13, .move (.tmp 1), none, false, true, false⟩,
          ⟨some 14, .convert 3 21 (.tmp 13), none, false, true, false⟩,
          ⟨some 15, .convert 21 3 (.tmp 14), none, false, true, false⟩,
          ⟨some 4, .assign (.tmp 15), none, false, true, false⟩])
        .ret)
        (.seq
        (.reg false [
          ⟨some 17, .binOp .eql 3 (.tmp 5) (.const (.int .i64 2)) 3, none, false, true, false⟩,
          ⟨some 16, .assign (.tmp 17), none, false, true, false⟩])
        (.cond (.tmp 16)
          (.seq
          (.reg false [
            ⟨some 18, .move (.tmp 1), none, false, true, false⟩,
            ⟨some 4, .assign (.tmp 18), none, false, true, false⟩])
          .ret)
          .skip))))))))
  (.seq
  (.reg false [
    ⟨some 4, .assign (.const (.int .i64 0)), none, false, true, false⟩])
  .ret)))
def f12 : FI := ⟨c12, 19, [.tmp 4]⟩
theorem fn12 : AmEnv.fn 12 = some f12 := by kernel_rfl
/-- mortise/mortiselaw01.works -/
def c13 : XC :=
  (.seq
  (.reg false [
    ⟨some 0, .assign (.const (.bool false)), none, false, true, false⟩])
  (.seq
  (.reg false [
    ⟨some 12, .call ⟨.value (.func 14), #[.const (.int .i64 1), .const (.string ⟨#[43]⟩), .const (.int .i64 2147483647), .const (.int .i64 1)], #[3, 9, 3, 3]⟩, none, false, true, false⟩,
    ⟨some 11, .move (.tmp 12), none, false, true, false⟩,
    ⟨some 13, .extract (.tmp 11) 0, none, false, true, false⟩,
    ⟨some 14, .extract (.tmp 11) 1, none, false, true, false⟩,
    ⟨some 1, .assign (.tmp 13), none, false, true, false⟩,
    ⟨some 2, .assign (.tmp 14), none, false, true, false⟩])
  (.seq
  (.reg false [
    ⟨some 16, .call ⟨.value (.func 14), #[.const (.int .i64 1), .const (.string ⟨#[47]⟩), .const (.int .i64 (-7)), .const (.int .i64 2)], #[3, 9, 3, 3]⟩, none, false, true, false⟩,
    ⟨some 15, .move (.tmp 16), none, false, true, false⟩,
    ⟨some 17, .extract (.tmp 15) 0, none, false, true, false⟩,
    ⟨some 18, .extract (.tmp 15) 1, none, false, true, false⟩,
    ⟨some 3, .assign (.tmp 17), none, false, true, false⟩,
    ⟨some 4, .assign (.tmp 18), none, false, true, false⟩])
  (.seq
  (.reg false [
    ⟨some 20, .call ⟨.value (.func 14), #[.const (.int .i64 1), .const (.string ⟨#[47]⟩), .const (.int .i64 7), .const (.int .i64 0)], #[3, 9, 3, 3]⟩, none, false, true, false⟩,
    ⟨some 19, .move (.tmp 20), none, false, true, false⟩,
    ⟨some 21, .extract (.tmp 19) 0, none, false, true, false⟩,
    ⟨some 22, .extract (.tmp 19) 1, none, false, true, false⟩,
    ⟨some 5, .assign (.tmp 21), none, false, true, false⟩,
    ⟨some 6, .assign (.tmp 22), none, false, true, false⟩])
  (.seq
  (.reg false [
    ⟨some 24, .call ⟨.value (.func 14), #[.const (.int .i64 1), .const (.string ⟨#[47]⟩), .const (.int .i64 (-2147483648)), .const (.int .i64 (-1))], #[3, 9, 3, 3]⟩, none, false, true, false⟩,
    ⟨some 23, .move (.tmp 24), none, false, true, false⟩,
    ⟨some 25, .extract (.tmp 23) 0, none, false, true, false⟩,
    ⟨some 26, .extract (.tmp 23) 1, none, false, true, false⟩,
    ⟨some 7, .assign (.tmp 25), none, false, true, false⟩,
    ⟨some 8, .assign (.tmp 26), none, false, true, false⟩])
  (.seq
  (.reg false [
    ⟨some 28, .call ⟨.value (.func 14), #[.const (.int .i64 1), .const (.string ⟨#[62, 62]⟩), .const (.int .i64 (-5)), .const (.int .i64 1)], #[3, 9, 3, 3]⟩, none, false, true, false⟩,
    ⟨some 27, .move (.tmp 28), none, false, true, false⟩,
    ⟨some 29, .extract (.tmp 27) 0, none, false, true, false⟩,
    ⟨some 30, .extract (.tmp 27) 1, none, false, true, false⟩,
    ⟨some 9, .assign (.tmp 29), none, false, true, false⟩,
    ⟨some 10, .assign (.tmp 30), none, false, true, false⟩])
  (.seq
  (.reg false [
    ⟨some 31, .move (.tmp 1), none, false, true, false⟩,
    ⟨some 32, .binOp .eql 3 (.tmp 31) (.const (.int .i64 (-2147483648))) 3, none, false, true, false⟩,
    ⟨some 33, .move (.tmp 32), none, false, true, false⟩,
    ⟨some 34, .move (.tmp 2), some (some 33, true), false, true, false⟩,
    ⟨some 35, .binOp .eql 3 (.tmp 34) (.const (.int .i64 0)) 3, some (some 33, true), false, true, false⟩,
    ⟨some 36, .pick (.tmp 33) (.tmp 35) (.const (.bool false)), none, false, true, false⟩,
    ⟨some 37, .move (.tmp 36), none, false, true, false⟩,
    ⟨some 38, .move (.tmp 3), some (some 37, true), false, true, false⟩,
    ⟨some 39, .binOp .eql 3 (.tmp 38) (.const (.int .i64 (-3))) 3, some (some 37, true), false, true, false⟩,
    ⟨some 40, .pick (.tmp 37) (.tmp 39) (.const (.bool false)), none, false, true, false⟩,
    ⟨some 41, .move (.tmp 40), none, false, true, false⟩,
    ⟨some 42, .move (.tmp 4), some (some 41, true), false, true, false⟩,
    ⟨some 43, .binOp .eql 3 (.tmp 42) (.const (.int .i64 0)) 3, some (some 41, true), false, true, false⟩,
    ⟨some 44, .pick (.tmp 41) (.tmp 43) (.const (.bool false)), none, false, true, false⟩,
    ⟨some 45, .move (.tmp 44), none, false, true, false⟩,
    ⟨some 46, .move (.tmp 6), some (some 45, true), false, true, false⟩,
    ⟨some 47, .binOp .eql 3 (.tmp 46) (.const (.int .i64 1)) 3, some (some 45, true), false, true, false⟩,
    ⟨some 48, .pick (.tmp 45) (.tmp 47) (.const (.bool false)), none, false, true, false⟩,
    ⟨some 49, .move (.tmp 48), none, false, true, false⟩,
    ⟨some 50, .move (.tmp 8), some (some 49, true), false, true, false⟩,
    ⟨some 51, .binOp .eql 3 (.tmp 50) (.const (.int .i64 2)) 3, some (some 49, true), false, true, false⟩,
    ⟨some 52, .pick (.tmp 49) (.tmp 51) (.const (.bool false)), none, false, true, false⟩,
    ⟨some 53, .move (.tmp 52), none, false, true, false⟩,
    ⟨some 54, .move (.tmp 9), some (some 53, true), false, true, false⟩,
    ⟨some 55, .binOp .eql 3 (.tmp 54) (.const (.int .i64 (-3))) 3, some (some 53, true), false, true, false⟩,
    ⟨some 56, .pick (.tmp 53) (.tmp 55) (.const (.bool false)), none, false, true, false⟩,
    ⟨some 57, .move (.tmp 56), none, false, true, false⟩,
    ⟨some 58, .move (.tmp 10), some (some 57, true), false, true, false⟩,
    ⟨some 59, .binOp .eql 3 (.tmp 58) (.const (.int .i64 0)) 3, some (some 57, true), false, true, false⟩,
    ⟨some 60, .pick (.tmp 57) (.tmp 59) (.const (.bool false)), none, false, true, false⟩,
    ⟨some 61, .move (.tmp 60), none, false, true, false⟩,
    ⟨some 62, .call ⟨.value (.func 12), #[.const (.int .i64 3), .const (.int .i64 200)], #[3, 3]⟩, some (some 61, true), false, true, false⟩,
    ⟨some 63, .binOp .eql 3 (.tmp 62) (.const (.int .i64 (-56))) 3, some (some 61, true), false, true, false⟩,
    ⟨some 64, .pick (.tmp 61) (.tmp 63) (.const (.bool false)), none, false, true, false⟩,
    ⟨some 0, .assign (.tmp 64), none, false, true, false⟩])
  .ret)))))))
def f13 : FI := ⟨c13, 65, [.tmp 0]⟩
theorem fn13 : AmEnv.fn 13 = some f13 := by kernel_rfl
/-- mortise/word.Bin -/
def c14 : XC :=
  (.seq
  (.reg false [
    ⟨some 8, .assign (.const (.int .i64 0)), none, false, true, false⟩,
    ⟨some 9, .assign (.const (.int .i64 0)), none, false, true, false⟩])
  (.seq
  (.seq
  (.reg false [
    ⟨some 10, .move (.tmp 0), none, false, true, false⟩])
  (.block 0
    (.seq
    (.reg false [
      ⟨some 12, .binOp .eql 3 (.tmp 10) (.const (.int .i64 1)) 3, none, false, true, false⟩,
      ⟨some 11, .assign (.tmp 12), none, false, true, false⟩])
    (.cond (.tmp 11)
      (.seq
      (.reg false [
        ⟨some 13, .move (.tmp 1), none, false, true, false⟩,
        ⟨some 14, .move (.tmp 2), none, false, true, false⟩,
        ⟨some 15, .convert 3 21 (.tmp 14), none, false, true, false⟩,
        ⟨some 16, .move (.tmp 3), none, false, true, false⟩,
        ⟨some 17, .convert 3 21 (.tmp 16), none, false, true, false⟩,
        ⟨some 18, .call ⟨.value (.func 21), #[.tmp 13, .tmp 15, .tmp 17, .const (.int .i64 32)], #[9, 21, 21, 3]⟩, none, false, true, false⟩,
        ⟨some 19, .extract (.tmp 18) 0, none, false, true, false⟩,
        ⟨some 20, .extract (.tmp 18) 1, none, false, true, false⟩,
        ⟨some 8, .assign (.tmp 19), none, false, true, false⟩,
        ⟨some 9, .assign (.tmp 20), none, false, true, false⟩])
      .ret)
      (.seq
      (.reg false [
        ⟨some 22, .binOp .eql 3 (.tmp 10) (.const (.int .i64 2)) 3, none, false, true, false⟩,
        ⟨some 21, .assign (.tmp 22), none, false, true, false⟩])
      (.cond (.tmp 21)
        (.seq
        (.reg false [
          ⟨some 23, .move (.tmp 1), none, false, true, false⟩,
          ⟨some 24, .move (.tmp 2), none, false, true, false⟩,
          ⟨some 25, .move (.tmp 3), none, false, true, false⟩,
          ⟨some 26, .call ⟨.value (.func 22), #[.tmp 23, .tmp 24, .tmp 25, .const (.int .i64 64)], #[9, 2, 2, 3]⟩, none, false, true, false⟩,
          ⟨some 27, .extract (.tmp 26) 0, none, false, true, false⟩,
          ⟨some 28, .extract (.tmp 26) 1, none, false, true, false⟩,
          ⟨some 8, .assign (.tmp 27), none, false, true, false⟩,
          ⟨some 9, .assign (.tmp 28), none, false, true, false⟩])
        .ret)
        .skip))))))
  (.seq
  (.reg false [
    ⟨some 8, .assign (.const (.int .i64 0)), none, false, true, false⟩,
    ⟨some 9, .assign (.const (.int .i64 0)), none, false, true, false⟩])
  .ret)))
def f14 : FI := ⟨c14, 29, [.tmp 8, .tmp 9]⟩
theorem fn14 : AmEnv.fn 14 = some f14 := by kernel_rfl
/-- mortise/mortiseref01.Bin -/
def c15 : XC :=
  (.seq
  (.reg false [
    ⟨some 8, .assign (.const (.int .i64 0)), none, false, true, false⟩,
    ⟨some 9, .assign (.const (.int .i64 0)), none, false, true, false⟩])
  (.seq
  (.seq
  (.reg false [
    ⟨some 10, .move (.tmp 0), none, false, true, false⟩,
    ⟨some 11, .binOp .neq 3 (.tmp 10) (.const (.int .i64 1)) 3, none, false, true, false⟩,
    ⟨some 12, .move (.tmp 11), none, false, true, false⟩,
    ⟨some 13, .move (.tmp 0), some (some 12, true), false, true, false⟩,
    ⟨some 14, .binOp .neq 3 (.tmp 13) (.const (.int .i64 2)) 3, some (some 12, true), false, true, false⟩,
    ⟨some 15, .pick (.tmp 12) (.tmp 14) (.const (.bool false)), none, false, true, false⟩])
  (.cond (.tmp 15)
    (.seq
    (.reg false [
      ⟨some 8, .assign (.const (.int .i64 0)), none, false, true, false⟩,
      ⟨some 9, .assign (.const (.int .i64 0)), none, false, true, false⟩])
    .ret)
    .skip))
  (.seq
  (.reg false [
    ⟨some 16, .move (.tmp 0), none, false, true, false⟩,
    ⟨some 17, .move (.tmp 2), none, false, true, false⟩,
    ⟨some 18, .call ⟨.value (.func 18), #[.tmp 16, .tmp 17], #[3, 3]⟩, none, false, true, false⟩,
    ⟨some 2, .assign (.tmp 18), none, false, true, false⟩])
  (.seq
  (.reg false [
    ⟨some 19, .move (.tmp 0), none, false, true, false⟩,
    ⟨some 20, .move (.tmp 3), none, false, true, false⟩,
    ⟨some 21, .call ⟨.value (.func 18), #[.tmp 19, .tmp 20], #[3, 3]⟩, none, false, true, false⟩,
    ⟨some 3, .assign (.tmp 21), none, false, true, false⟩])
  (.seq
  (.seq
  (.reg false [
    ⟨some 22, .move (.tmp 1), none, false, true, false⟩])
  (.block 0
    (.seq
    (.reg false [
      ⟨some 24, .binOp .eql 9 (.tmp 22) (.const (.string ⟨#[43]⟩)) 9, none, false, true, false⟩,
      ⟨some 23, .assign (.tmp 24), none, false, true, false⟩])
    (.cond (.tmp 23)
      (.seq
      (.reg false [
        ⟨some 25, .move (.tmp 0), none, false, true, false⟩,
        ⟨some 26, .move (.tmp 2), none, false, true, false⟩,
        ⟨some 27, .move (.tmp 3), none, false, true, false⟩,
        ⟨some 28, .binOp .add 3 (.tmp 26) (.tmp 27) 3, none, false, true, false⟩,
        ⟨some 29, .call ⟨.value (.func 18), #[.tmp 25, .tmp 28], #[3, 3]⟩, none, false, true, false⟩,
        ⟨some 8, .assign (.tmp 29), none, false, true, false⟩,
        ⟨some 9, .assign (.const (.int .i64 0)), none, false, true, false⟩])
      .ret)
      (.seq
      (.reg false [
        ⟨some 31, .binOp .eql 9 (.tmp 22) (.const (.string ⟨#[45]⟩)) 9, none, false, true, false⟩,
        ⟨some 30, .assign (.tmp 31), none, false, true, false⟩])
      (.cond (.tmp 30)
        (.seq
        (.reg false [
          ⟨some 32, .move (.tmp 0), none, false, true, false⟩,
          ⟨some 33, .move (.tmp 2), none, false, true, false⟩,
          ⟨some 34, .move (.tmp 3), none, false, true, false⟩,
          ⟨some 35, .binOp .sub 3 (.tmp 33) (.tmp 34) 3, none, false, true, false⟩,
          ⟨some 36, .call ⟨.value (.func 18), #[.tmp 32, .tmp 35], #[3, 3]⟩, none, false, true, false⟩,
          ⟨some 8, .assign (.tmp 36), none, false, true, false⟩,
          ⟨some 9, .assign (.const (.int .i64 0)), none, false, true, false⟩])
        .ret)
        (.seq
        (.reg false [
          ⟨some 38, .binOp .eql 9 (.tmp 22) (.const (.string ⟨#[42]⟩)) 9, none, false, true, false⟩,
          ⟨some 37, .assign (.tmp 38), none, false, true, false⟩])
        (.cond (.tmp 37)
          (.seq
          (.reg false [
            ⟨some 39, .move (.tmp 0), none, false, true, false⟩,
            ⟨some 40, .move (.tmp 2), none, false, true, false⟩,
            ⟨some 41, .move (.tmp 3), none, false, true, false⟩,
            ⟨some 42, .binOp .mul 3 (.tmp 40) (.tmp 41) 3, none, false, true, false⟩,
            ⟨some 43, .call ⟨.value (.func 18), #[.tmp 39, .tmp 42], #[3, 3]⟩, none, false, true, false⟩,
            ⟨some 8, .assign (.tmp 43), none, false, true, false⟩,
            ⟨some 9, .assign (.const (.int .i64 0)), none, false, true, false⟩])
          .ret)
          (.seq
          (.seq
          (.reg false [
            ⟨some 45, .binOp .eql 9 (.tmp 22) (.const (.string ⟨#[47]⟩)) 9, none, false, true, false⟩,
            ⟨some 44, .assign (.tmp 45), none, false, true, false⟩])
          (.cond (.tmp 44)
            .skip
            (.reg false [
              ⟨some 46, .binOp .eql 9 (.tmp 22) (.const (.string ⟨#[37]⟩)) 9, none, false, true, false⟩,
              ⟨some 44, .assign (.tmp 46), none, false, true, false⟩])))
          (.cond (.tmp 44)
            (.seq
            (.reg false [
              ⟨some 47, .move (.tmp 0), none, false, true, false⟩,
              ⟨some 48, .move (.tmp 1), none, false, true, false⟩,
              ⟨some 49, .move (.tmp 2), none, false, true, false⟩,
              ⟨some 50, .move (.tmp 3), none, false, true, false⟩,
              ⟨some 51, .call ⟨.value (.func 23), #[.tmp 47, .tmp 48, .tmp 49, .tmp 50], #[3, 9, 3, 3]⟩, none, false, true, false⟩,
              ⟨some 52, .extract (.tmp 51) 0, none, false, true, false⟩,
              ⟨some 53, .extract (.tmp 51) 1, none, false, true, false⟩,
              ⟨some 8, .assign (.tmp 52), none, false, true, false⟩,
              ⟨some 9, .assign (.tmp 53), none, false, true, false⟩])
            .ret)
            (.seq
            (.seq
            (.reg false [
              ⟨some 55, .binOp .eql 9 (.tmp 22) (.const (.string ⟨#[38]⟩)) 9, none, false, true, false⟩,
              ⟨some 54, .assign (.tmp 55), none, false, true, false⟩])
            (.cond (.tmp 54)
              .skip
              (.seq
              (.reg false [
                ⟨some 56, .binOp .eql 9 (.tmp 22) (.const (.string ⟨#[124]⟩)) 9, none, false, true, false⟩,
                ⟨some 54, .assign (.tmp 56), none, false, true, false⟩])
              (.cond (.tmp 54)
                .skip
                (.reg false [
                  ⟨some 57, .binOp .eql 9 (.tmp 22) (.const (.string ⟨#[94]⟩)) 9, none, false, true, false⟩,
                  ⟨some 54, .assign (.tmp 57), none, false, true, false⟩])))))
            (.cond (.tmp 54)
              (.seq
              (.reg false [
                ⟨some 58, .move (.tmp 0), none, false, true, false⟩,
                ⟨some 59, .move (.tmp 1), none, false, true, false⟩,
                ⟨some 60, .move (.tmp 2), none, false, true, false⟩,
                ⟨some 61, .move (.tmp 3), none, false, true, false⟩,
                ⟨some 62, .call ⟨.value (.func 24), #[.tmp 58, .tmp 59, .tmp 60, .tmp 61], #[3, 9, 3, 3]⟩, none, false, true, false⟩,
                ⟨some 8, .assign (.tmp 62), none, false, true, false⟩,
                ⟨some 9, .assign (.const (.int .i64 0)), none, false, true, false⟩])
              .ret)
              (.seq
              (.seq
              (.reg false [
                ⟨some 64, .binOp .eql 9 (.tmp 22) (.const (.string ⟨#[60, 60]⟩)) 9, none, false, true, false⟩,
                ⟨some 63, .assign (.tmp 64), none, false, true, false⟩])
              (.cond (.tmp 63)
                .skip
                (.reg false [
                  ⟨some 65, .binOp .eql 9 (.tmp 22) (.const (.string ⟨#[62, 62]⟩)) 9, none, false, true, false⟩,
                  ⟨some 63, .assign (.tmp 65), none, false, true, false⟩])))
              (.cond (.tmp 63)
                (.seq
                (.reg false [
                  ⟨some 66, .move (.tmp 0), none, false, true, false⟩,
                  ⟨some 67, .move (.tmp 1), none, false, true, false⟩,
                  ⟨some 68, .move (.tmp 2), none, false, true, false⟩,
                  ⟨some 69, .move (.tmp 3), none, false, true, false⟩,
                  ⟨some 70, .call ⟨.value (.func 25), #[.tmp 66, .tmp 67, .tmp 68, .tmp 69], #[3, 9, 3, 3]⟩, none, false, true, false⟩,
                  ⟨some 8, .assign (.tmp 70), none, false, true, false⟩,
                  ⟨some 9, .assign (.const (.int .i64 0)), none, false, true, false⟩])
                .ret)
                (.seq
                (.reg false [
                  ⟨some 72, .binOp .eql 9 (.tmp 22) (.const (.string ⟨#[61, 61]⟩)) 9, none, false, true, false⟩,
                  ⟨some 71, .assign (.tmp 72), none, false, true, false⟩])
                (.cond (.tmp 71)
                  (.seq
                  (.reg false [
                    ⟨some 73, .move (.tmp 2), none, false, true, false⟩,
                    ⟨some 74, .move (.tmp 3), none, false, true, false⟩,
                    ⟨some 75, .binOp .eql 3 (.tmp 73) (.tmp 74) 3, none, false, true, false⟩,
                    ⟨some 76, .call ⟨.value (.func 26), #[.tmp 75], #[4]⟩, none, false, true, false⟩,
                    ⟨some 8, .assign (.tmp 76), none, false, true, false⟩,
                    ⟨some 9, .assign (.const (.int .i64 0)), none, false, true, false⟩])
                  .ret)
                  (.seq
                  (.reg false [
                    ⟨some 78, .binOp .eql 9 (.tmp 22) (.const (.string ⟨#[33, 61]⟩)) 9, none, false, true, false⟩,
                    ⟨some 77, .assign (.tmp 78), none, false, true, false⟩])
                  (.cond (.tmp 77)
                    (.seq
                    (.reg false [
                      ⟨some 79, .move (.tmp 2), none, false, true, false⟩,
                      ⟨some 80, .move (.tmp 3), none, false, true, false⟩,
                      ⟨some 81, .binOp .neq 3 (.tmp 79) (.tmp 80) 3, none, false, true, false⟩,
                      ⟨some 82, .call ⟨.value (.func 26), #[.tmp 81], #[4]⟩, none, false, true, false⟩,
                      ⟨some 8, .assign (.tmp 82), none, false, true, false⟩,
                      ⟨some 9, .assign (.const (.int .i64 0)), none, false, true, false⟩])
                    .ret)
                    (.seq
                    (.reg false [
                      ⟨some 84, .binOp .eql 9 (.tmp 22) (.const (.string ⟨#[60]⟩)) 9, none, false, true, false⟩,
                      ⟨some 83, .assign (.tmp 84), none, false, true, false⟩])
                    (.cond (.tmp 83)
                      (.seq
                      (.reg false [
                        ⟨some 85, .move (.tmp 2), none, false, true, false⟩,
                        ⟨some 86, .move (.tmp 3), none, false, true, false⟩,
                        ⟨some 87, .binOp .lss 3 (.tmp 85) (.tmp 86) 3, none, false, true, false⟩,
                        ⟨some 88, .call ⟨.value (.func 26), #[.tmp 87], #[4]⟩, none, false, true, false⟩,
                        ⟨some 8, .assign (.tmp 88), none, false, true, false⟩,
                        ⟨some 9, .assign (.const (.int .i64 0)), none, false, true, false⟩])
                      .ret)
                      (.seq
                      (.reg false [
                        ⟨some 90, .binOp .eql 9 (.tmp 22) (.const (.string ⟨#[60, 61]⟩)) 9, none, false, true, false⟩,
                        ⟨some 89, .assign (.tmp 90), none, false, true, false⟩])
                      (.cond (.tmp 89)
                        (.seq
                        (.reg false [
                          ⟨some 91, .move (.tmp 2), none, false, true, false⟩,
                          ⟨some 92, .move (.tmp 3), none, false, true, false⟩,
                          ⟨some 93, .binOp .leq 3 (.tmp 91) (.tmp 92) 3, none, false, true, false⟩,
                          ⟨some 94, .call ⟨.value (.func 26), #[.tmp 93], #[4]⟩, none, false, true, false⟩,
                          ⟨some 8, .assign (.tmp 94), none, false, true, false⟩,
                          ⟨some 9, .assign (.const (.int .i64 0)), none, false, true, false⟩])
                        .ret)
                        (.seq
                        (.reg false [
                          ⟨some 96, .binOp .eql 9 (.tmp 22) (.const (.string ⟨#[62]⟩)) 9, none, false, true, false⟩,
                          ⟨some 95, .assign (.tmp 96), none, false, true, false⟩])
                        (.cond (.tmp 95)
                          (.seq
                          (.reg false [
                            ⟨some 97, .move (.tmp 2), none, false, true, false⟩,
                            ⟨some 98, .move (.tmp 3), none, false, true, false⟩,
                            ⟨some 99, .binOp .gtr 3 (.tmp 97) (.tmp 98) 3, none, false, true, false⟩,
                            ⟨some 100, .call ⟨.value (.func 26), #[.tmp 99], #[4]⟩, none, false, true, false⟩,
                            ⟨some 8, .assign (.tmp 100), none, false, true, false⟩,
                            ⟨some 9, .assign (.const (.int .i64 0)), none, false, true, false⟩])
                          .ret)
                          (.seq
                          (.reg false [
                            ⟨some 102, .binOp .eql 9 (.tmp 22) (.const (.string ⟨#[62, 61]⟩)) 9, none, false, true, false⟩,
                            ⟨some 101, .assign (.tmp 102), none, false, true, false⟩])
                          (.cond (.tmp 101)
                            (.seq
                            (.reg false [
                              ⟨some 103, .move (.tmp 2), none, false, true, false⟩,
                              ⟨some 104, .move (.tmp 3), none, false, true, false⟩,
                              ⟨some 105, .binOp .geq 3 (.tmp 103) (.tmp 104) 3, none, false, true, false⟩,
                              ⟨some 106, .call ⟨.value (.func 26), #[.tmp 105], #[4]⟩, none, false, true, false⟩,
                              ⟨some 8, .assign (.tmp 106), none, false, true, false⟩,
                              ⟨some 9, .assign (.const (.int .i64 0)), none, false, true, false⟩])
                            .ret)
                            .skip))))))))))))))))))))))))))
  (.seq
  (.reg false [
    ⟨some 8, .assign (.const (.int .i64 0)), none, false, true, false⟩,
    ⟨some 9, .assign (.const (.int .i64 0)), none, false, true, false⟩])
  .ret))))))
def f15 : FI := ⟨c15, 107, [.tmp 8, .tmp 9]⟩
theorem fn15 : AmEnv.fn 15 = some f15 := by kernel_rfl
/-- mortise/word.Width -/
def c16 : XC :=
  (.seq
  (.reg false [
    ⟨some 2, .assign (.const (.int .i64 0)), none, false, true, false⟩])
  (.seq
  (.reg false [
    ⟨some 3, .makeMap 41 none, none, false, true, false⟩,
    ⟨none, .insert 41 (.tmp 3) (.const (.int .i64 3)) (.const (.int .i64 8)), none, false, true, false⟩,
    ⟨none, .insert 41 (.tmp 3) (.const (.int .i64 1)) (.const (.int .i64 32)), none, false, true, false⟩,
    ⟨none, .insert 41 (.tmp 3) (.const (.int .i64 2)) (.const (.int .i64 64)), none, false, true, false⟩,
    ⟨some 4, .move (.tmp 3), none, false, true, false⟩,
    ⟨some 5, .move (.tmp 0), none, false, true, false⟩,
    ⟨some 6, .lookup 41 (.tmp 4) (.tmp 5) false, none, false, true, false⟩,
    ⟨some 2, .assign (.tmp 6), none, false, true, false⟩])
  .ret))
def f16 : FI := ⟨c16, 7, [.tmp 2]⟩
theorem fn16 : AmEnv.fn 16 = some f16 := by kernel_rfl
/-- mortise/mortiseref01.Width -/
def c17 : XC :=
  (.seq
  (.reg false [
    ⟨some 2, .assign (.const (.int .i64 0)), none, false, true, false⟩])
  (.seq
  (.seq
  (.reg false [
    ⟨some 3, .move (.tmp 0), none, false, true, false⟩])
  (.block 0
    (.seq
    (.reg false [
      ⟨some 5, .binOp .eql 3 (.tmp 3) (.const (.int .i64 3)) 3, none, false, true, false⟩,
      ⟨some 4, .assign (.tmp 5), none, false, true, false⟩])
    (.cond (.tmp 4)
      (.seq
      (.reg false [
        ⟨some 2, .assign (.const (.int .i64 8)), none, false, true, false⟩])
      .ret)
      (.seq
      (.reg false [
        ⟨some 7, .binOp .eql 3 (.tmp 3) (.const (.int .i64 1)) 3, none, false, true, false⟩,
        ⟨some 6, .assign (.tmp 7), none, false, true, false⟩])
      (.cond (.tmp 6)
        (.seq
        (.reg false [
          ⟨some 2, .assign (.const (.int .i64 32)), none, false, true, false⟩])
        .ret)
        (.seq
        (.reg false [
          ⟨some 9, .binOp .eql 3 (.tmp 3) (.const (.int .i64 2)) 3, none, false, true, false⟩,
          ⟨some 8, .assign (.tmp 9), none, false, true, false⟩])
        (.cond (.tmp 8)
          (.seq
          (.reg false [
            ⟨some 2, .assign (.const (.int .i64 64)), none, false, true, false⟩])
          .ret)
          .skip))))))))
  (.seq
  (.reg false [
    ⟨some 2, .assign (.const (.int .i64 0)), none, false, true, false⟩])
  .ret)))
def f17 : FI := ⟨c17, 10, [.tmp 2]⟩
theorem fn17 : AmEnv.fn 17 = some f17 := by kernel_rfl
/-- mortise/mortiseref01.Wrap -/
def c18 : XC :=
  (.seq
  (.reg false [
    ⟨some 4, .assign (.const (.int .i64 0)), none, false, true, false⟩])
  (.seq
  (.reg false [
    ⟨some 8, .move (.tmp 0), none, false, true, false⟩,
    ⟨some 9, .call ⟨.value (.func 17), #[.tmp 8], #[3]⟩, none, false, true, false⟩,
    ⟨some 5, .assign (.tmp 9), none, false, true, false⟩])
  (.seq
  (.seq
  (.reg false [
    ⟨some 10, .move (.tmp 5), none, false, true, false⟩,
    ⟨some 11, .binOp .eql 3 (.tmp 10) (.const (.int .i64 0)) 3, none, false, true, false⟩,
    ⟨some 12, .move (.tmp 11), none, false, true, false⟩,
    ⟨some 13, .move (.tmp 5), some (some 12, false), false, true, false⟩,
    ⟨some 14, .binOp .eql 3 (.tmp 13) (.const (.int .i64 64)) 3, some (some 12, false), false, true, false⟩,
    ⟨some 15, .pick (.tmp 12) (.const (.bool true)) (.tmp 14), none, false, true, false⟩])
  (.cond (.tmp 15)
    (.seq
    (.reg false [
      ⟨some 16, .move (.tmp 1), none, false, true, false⟩,
      ⟨some 17, .move (.tmp 5), none, false, true, false⟩,
      ⟨some 18, .binOp .quo 3 (.tmp 17) (.const (.int .i64 64)) 3, none, false, true, false⟩,
      ⟨some 19, .binOp .mul 3 (.tmp 16) (.tmp 18) 3, none, false, true, false⟩,
      ⟨some 4, .assign (.tmp 19), none, false, true, false⟩])
    .ret)
    .skip))
  (.seq
  (.reg false [
    ⟨some 20, .move (.tmp 5), none, false, true, false⟩,
    ⟨some 21, .convert 3 33 (.tmp 20), none, false, true, false⟩,
    ⟨some 22, .binOp .shl 3 (.const (.int .i64 1)) (.tmp 21) 33, none, false, true, false⟩,
    ⟨some 6, .assign (.tmp 22), none, false, true, false⟩])
  (.seq
  (.reg false [
    ⟨some 23, .move (.tmp 1), none, false, true, false⟩,
    ⟨some 24, .move (.tmp 6), none, false, true, false⟩,
    ⟨some 25, .binOp .rem 3 (.tmp 23) (.tmp 24) 3, none, false, true, false⟩,
    ⟨some 7, .assign (.tmp 25), none, false, true, false⟩])
  (.seq
  (.seq
  (.reg false [
    ⟨some 26, .move (.tmp 7), none, false, true, false⟩,
    ⟨some 27, .binOp .lss 3 (.tmp 26) (.const (.int .i64 0)) 3, none, false, true, false⟩])
  (.cond (.tmp 27)
    (.reg false [
      ⟨some 28, .move (.tmp 7), none, false, true, false⟩,
      ⟨some 29, .move (.tmp 6), none, false, true, false⟩,
      ⟨some 30, .binOp .add 3 (.tmp 28) (.tmp 29) 3, none, false, true, false⟩,
      ⟨some 7, .assign (.tmp 30), none, false, true, false⟩])
    .skip))
  (.seq
  (.seq
  (.reg false [
    ⟨some 31, .move (.tmp 7), none, false, true, false⟩,
    ⟨some 32, .move (.tmp 6), none, false, true, false⟩,
    ⟨some 33, .binOp .quo 3 (.tmp 32) (.const (.int .i64 2)) 3, none, false, true, false⟩,
    ⟨some 34, .binOp .geq 3 (.tmp 31) (.tmp 33) 3, none, false, true, false⟩])
  (.cond (.tmp 34)
    (.reg false [
      ⟨some 35, .move (.tmp 7), none, false, true, false⟩,
      ⟨some 36, .move (.tmp 6), none, false, true, false⟩,
      ⟨some 37, .binOp .sub 3 (.tmp 35) (.tmp 36) 3, none, false, true, false⟩,
      ⟨some 7, .assign (.tmp 37), none, false, true, false⟩])
    .skip))
  (.seq
  (.reg false [
    ⟨some 38, .move (.tmp 7), none, false, true, false⟩,
    ⟨some 4, .assign (.tmp 38), none, false, true, false⟩])
  .ret))))))))
def f18 : FI := ⟨c18, 39, [.tmp 4]⟩
theorem fn18 : AmEnv.fn 18 = some f18 := by kernel_rfl
/-- mortise/mortiselaw01.near -/
def c19 : XC :=
  (.seq
  (.reg false [
    ⟨some 4, .assign (.const (.bool false)), none, false, true, false⟩])
  (.seq
  (.seq
  (.reg false [
    ⟨some 5, .move (.tmp 0), none, false, true, false⟩,
    ⟨some 6, .binOp .gtr 3 (.tmp 5) (.const (.int .i64 0)) 3, none, false, true, false⟩])
  (.cond (.tmp 6)
    (.reg false [
      ⟨some 7, .move (.tmp 0), none, false, true, false⟩,
      ⟨some 8, .unOp .neg 3 (.tmp 7), none, false, true, false⟩,
      ⟨some 0, .assign (.tmp 8), none, false, true, false⟩])
    .skip))
  (.seq
  (.seq
  (.reg false [
    ⟨some 9, .move (.tmp 1), none, false, true, false⟩,
    ⟨some 10, .binOp .gtr 3 (.tmp 9) (.const (.int .i64 0)) 3, none, false, true, false⟩])
  (.cond (.tmp 10)
    (.reg false [
      ⟨some 11, .move (.tmp 1), none, false, true, false⟩,
      ⟨some 12, .unOp .neg 3 (.tmp 11), none, false, true, false⟩,
      ⟨some 1, .assign (.tmp 12), none, false, true, false⟩])
    .skip))
  (.seq
  (.reg false [
    ⟨some 13, .move (.tmp 0), none, false, true, false⟩,
    ⟨some 14, .move (.tmp 1), none, false, true, false⟩,
    ⟨some 15, .binOp .gtr 3 (.tmp 13) (.tmp 14) 3, none, false, true, false⟩,
    ⟨some 4, .assign (.tmp 15), none, false, true, false⟩])
  .ret))))
def f19 : FI := ⟨c19, 16, [.tmp 4]⟩
theorem fn19 : AmEnv.fn 19 = some f19 := by kernel_rfl
/-- mortise/mortiselaw01.Ops -/
def c20 : XC :=
  (.seq
  (.reg false [
    ⟨some 0, .assign (.const (.slice none 0 0)), none, false, true, false⟩])
  (.seq
  (.reg false [
    ⟨some 1, .buildSlice 23 16 #[(0, .const (.string ⟨#[43]⟩)), (1, .const (.string ⟨#[45]⟩)), (2, .const (.string ⟨#[42]⟩)), (3, .const (.string ⟨#[47]⟩)), (4, .const (.string ⟨#[37]⟩)), (5, .const (.string ⟨#[38]⟩)), (6, .const (.string ⟨#[124]⟩)), (7, .const (.string ⟨#[94]⟩)), (8, .const (.string ⟨#[60, 60]⟩)), (9, .const (.string ⟨#[62, 62]⟩)), (10, .const (.string ⟨#[61, 61]⟩)), (11, .const (.string ⟨#[33, 61]⟩)), (12, .const (.string ⟨#[60]⟩)), (13, .const (.string ⟨#[60, 61]⟩)), (14, .const (.string ⟨#[62]⟩)), (15, .const (.string ⟨#[62, 61]⟩))], none, false, true, false⟩,
    ⟨some 0, .assign (.tmp 1), none, false, true, false⟩])
  .ret))
def f20 : FI := ⟨c20, 2, [.tmp 0]⟩
theorem fn20 : AmEnv.fn 20 = some f20 := by kernel_rfl
/-- mortise/word.bin[int32] -/
def c21 : XC :=
  (.seq
  (.reg false [
    ⟨some 8, .assign (.const (.int .i64 0)), none, false, true, false⟩,
    ⟨some 9, .assign (.const (.int .i64 0)), none, false, true, false⟩])
  (.seq
  (.seq
  (.reg false [
    ⟨some 12, .move (.tmp 0), none, false, true, false⟩,
    ⟨some 13, .binOp .eql 9 (.tmp 12) (.const (.string ⟨#[47]⟩)) 9, none, false, true, false⟩,
    ⟨some 14, .move (.tmp 13), none, false, true, false⟩,
    ⟨some 15, .move (.tmp 0), some (some 14, false), false, true, false⟩,
    ⟨some 16, .binOp .eql 9 (.tmp 15) (.const (.string ⟨#[37]⟩)) 9, some (some 14, false), false, true, false⟩,
    ⟨some 17, .pick (.tmp 14) (.const (.bool true)) (.tmp 16), none, false, true, false⟩])
  (.cond (.tmp 17)
    (.seq
    (.reg false [
      ⟨some 19, .move (.tmp 0), none, false, true, false⟩,
      ⟨some 20, .move (.tmp 1), none, false, true, false⟩,
      ⟨some 21, .move (.tmp 2), none, false, true, false⟩,
      ⟨some 22, .call ⟨.value (.func 27), #[.tmp 19, .tmp 20, .tmp 21], #[9, 21, 21]⟩, none, false, true, false⟩,
      ⟨some 18, .move (.tmp 22), none, false, true, false⟩,
      ⟨some 23, .extract (.tmp 18) 0, none, false, true, false⟩,
      ⟨some 24, .extract (.tmp 18) 1, none, false, true, false⟩,
      ⟨some 10, .assign (.tmp 23), none, false, true, false⟩,
      ⟨some 11, .assign (.tmp 24), none, false, true, false⟩])
    (.seq
    (.reg false [
      ⟨some 25, .move (.tmp 10), none, false, true, false⟩,
      ⟨some 26, .convert 21 3 (.tmp 25), none, false, true, false⟩,
      ⟨some 27, .move (.tmp 11), none, false, true, false⟩,
      ⟨some 8, .assign (.tmp 26), none, false, true, false⟩,
      ⟨some 9, .assign (.tmp 27), none, false, true, false⟩])
    .ret))
    .skip))
  (.seq
  (.reg false [
    ⟨some 28, .move (.tmp 0), none, false, true, false⟩,
    ⟨some 29, .move (.tmp 1), none, false, true, false⟩,
    ⟨some 30, .move (.tmp 2), none, false, true, false⟩,
    ⟨some 31, .move (.tmp 3), none, false, true, false⟩,
    ⟨some 32, .call ⟨.value (.func 28), #[.tmp 28, .tmp 29, .tmp 30, .tmp 31], #[9, 21, 21, 3]⟩, none, false, true, false⟩,
    ⟨some 33, .convert 21 3 (.tmp 32), none, false, true, false⟩,
    ⟨some 8, .assign (.tmp 33), none, false, true, false⟩,
    ⟨some 9, .assign (.const (.int .i64 0)), none, false, true, false⟩])
  .ret)))
def f21 : FI := ⟨c21, 34, [.tmp 8, .tmp 9]⟩
theorem fn21 : AmEnv.fn 21 = some f21 := by kernel_rfl
/-- mortise/word.bin[int64] -/
def c22 : XC :=
  (.seq
  (.reg false [
    ⟨some 8, .assign (.const (.int .i64 0)), none, false, true, false⟩,
    ⟨some 9, .assign (.const (.int .i64 0)), none, false, true, false⟩])
  (.seq
  (.seq
  (.reg false [
    ⟨some 12, .move (.tmp 0), none, false, true, false⟩,
    ⟨some 13, .binOp .eql 9 (.tmp 12) (.const (.string ⟨#[47]⟩)) 9, none, false, true, false⟩,
    ⟨some 14, .move (.tmp 13), none, false, true, false⟩,
    ⟨some 15, .move (.tmp 0), some (some 14, false), false, true, false⟩,
    ⟨some 16, .binOp .eql 9 (.tmp 15) (.const (.string ⟨#[37]⟩)) 9, some (some 14, false), false, true, false⟩,
    ⟨some 17, .pick (.tmp 14) (.const (.bool true)) (.tmp 16), none, false, true, false⟩])
  (.cond (.tmp 17)
    (.seq
    (.reg false [
      ⟨some 19, .move (.tmp 0), none, false, true, false⟩,
      ⟨some 20, .move (.tmp 1), none, false, true, false⟩,
      ⟨some 21, .move (.tmp 2), none, false, true, false⟩,
      ⟨some 22, .call ⟨.value (.func 29), #[.tmp 19, .tmp 20, .tmp 21], #[9, 2, 2]⟩, none, false, true, false⟩,
      ⟨some 18, .move (.tmp 22), none, false, true, false⟩,
      ⟨some 23, .extract (.tmp 18) 0, none, false, true, false⟩,
      ⟨some 24, .extract (.tmp 18) 1, none, false, true, false⟩,
      ⟨some 10, .assign (.tmp 23), none, false, true, false⟩,
      ⟨some 11, .assign (.tmp 24), none, false, true, false⟩])
    (.seq
    (.reg false [
      ⟨some 25, .move (.tmp 10), none, false, true, false⟩,
      ⟨some 26, .move (.tmp 11), none, false, true, false⟩,
      ⟨some 8, .assign (.tmp 25), none, false, true, false⟩,
      ⟨some 9, .assign (.tmp 26), none, false, true, false⟩])
    .ret))
    .skip))
  (.seq
  (.reg false [
    ⟨some 27, .move (.tmp 0), none, false, true, false⟩,
    ⟨some 28, .move (.tmp 1), none, false, true, false⟩,
    ⟨some 29, .move (.tmp 2), none, false, true, false⟩,
    ⟨some 30, .move (.tmp 3), none, false, true, false⟩,
    ⟨some 31, .call ⟨.value (.func 30), #[.tmp 27, .tmp 28, .tmp 29, .tmp 30], #[9, 2, 2, 3]⟩, none, false, true, false⟩,
    ⟨some 8, .assign (.tmp 31), none, false, true, false⟩,
    ⟨some 9, .assign (.const (.int .i64 0)), none, false, true, false⟩])
  .ret)))
def f22 : FI := ⟨c22, 32, [.tmp 8, .tmp 9]⟩
theorem fn22 : AmEnv.fn 22 = some f22 := by kernel_rfl
/-- mortise/mortiseref01.divided -/
def c23 : XC :=
  (.seq
  (.reg false [
    ⟨some 8, .assign (.const (.int .i64 0)), none, false, true, false⟩,
    ⟨some 9, .assign (.const (.int .i64 0)), none, false, true, false⟩])
  (.seq
  (.seq
  (.reg false [
    ⟨some 10, .move (.tmp 3), none, false, true, false⟩,
    ⟨some 11, .binOp .eql 3 (.tmp 10) (.const (.int .i64 0)) 3, none, false, true, false⟩])
  (.cond (.tmp 11)
    (.seq
    (.reg false [
      ⟨some 8, .assign (.const (.int .i64 0)), none, false, true, false⟩,
      ⟨some 9, .assign (.const (.int .i64 1)), none, false, true, false⟩])
    .ret)
    .skip))
  (.seq
  (.seq
  (.reg false [
    ⟨some 12, .move (.tmp 3), none, false, true, false⟩,
    ⟨some 13, .binOp .eql 3 (.tmp 12) (.const (.int .i64 (-1))) 3, none, false, true, false⟩])
  (.cond (.tmp 13)
    (.seq
    (.seq
    (.reg false [
      ⟨some 14, .move (.tmp 1), none, false, true, false⟩,
      ⟨some 15, .binOp .eql 9 (.tmp 14) (.const (.string ⟨#[37]⟩)) 9, none, false, true, false⟩])
    (.cond (.tmp 15)
      (.seq
      (.reg false [
        ⟨some 8, .assign (.const (.int .i64 0)), none, false, true, false⟩,
        ⟨some 9, .assign (.const (.int .i64 0)), none, false, true, false⟩])
      .ret)
      .skip))
    (.seq
    (.seq
    (.reg false [
      ⟨some 16, .move (.tmp 0), none, false, true, false⟩,
      ⟨some 17, .move (.tmp 2), none, false, true, false⟩,
      ⟨some 18, .unOp .neg 3 (.tmp 17), none, false, true, false⟩,
      ⟨some 19, .call ⟨.value (.func 18), #[.tmp 16, .tmp 18], #[3, 3]⟩, none, false, true, false⟩,
      ⟨some 20, .move (.tmp 2), none, false, true, false⟩,
      ⟨some 21, .binOp .eql 3 (.tmp 19) (.tmp 20) 3, none, false, true, false⟩,
      ⟨some 22, .move (.tmp 21), none, false, true, false⟩,
      ⟨some 23, .move (.tmp 2), some (some 22, true), false, true, false⟩,
      ⟨some 24, .binOp .neq 3 (.tmp 23) (.const (.int .i64 0)) 3, some (some 22, true), false, true, false⟩,
      ⟨some 25, .pick (.tmp 22) (.tmp 24) (.const (.bool false)), none, false, true, false⟩])
    (.cond (.tmp 25)
      (.seq
      (.reg false [
        ⟨some 8, .assign (.const (.int .i64 0)), none, false, true, false⟩,
        ⟨some 9, .assign (.const (.int .i64 2)), none, false, true, false⟩])
      .ret)
      .skip))
    (.seq
    (.reg false [
      ⟨some 26, .move (.tmp 2), none, false, true, false⟩,
      ⟨some 27, .unOp .neg 3 (.tmp 26), none, false, true, false⟩,
      ⟨some 8, .assign (.tmp 27), none, false, true, false⟩,
      ⟨some 9, .assign (.const (.int .i64 0)), none, false, true, false⟩])
    .ret)))
    .skip))
  (.seq
  (.seq
  (.reg false [
    ⟨some 28, .move (.tmp 1), none, false, true, false⟩,
    ⟨some 29, .binOp .eql 9 (.tmp 28) (.const (.string ⟨#[37]⟩)) 9, none, false, true, false⟩])
  (.cond (.tmp 29)
    (.seq
    (.reg false [
      ⟨some 30, .move (.tmp 2), none, false, true, false⟩,
      ⟨some 31, .move (.tmp 3), none, false, true, false⟩,
      ⟨some 32, .binOp .rem 3 (.tmp 30) (.tmp 31) 3, none, false, true, false⟩,
      ⟨some 8, .assign (.tmp 32), none, false, true, false⟩,
      ⟨some 9, .assign (.const (.int .i64 0)), none, false, true, false⟩])
    .ret)
    .skip))
  (.seq
  (.reg false [
    ⟨some 33, .move (.tmp 2), none, false, true, false⟩,
    ⟨some 34, .move (.tmp 3), none, false, true, false⟩,
    ⟨some 35, .binOp .quo 3 (.tmp 33) (.tmp 34) 3, none, false, true, false⟩,
    ⟨some 8, .assign (.tmp 35), none, false, true, false⟩,
    ⟨some 9, .assign (.const (.int .i64 0)), none, false, true, false⟩])
  .ret)))))
def f23 : FI := ⟨c23, 36, [.tmp 8, .tmp 9]⟩
theorem fn23 : AmEnv.fn 23 = some f23 := by kernel_rfl
/-- mortise/mortiseref01.bits -/
def c24 : XC :=
  (.seq
  (.reg false [
    ⟨some 8, .assign (.const (.int .i64 0)), none, false, true, false⟩])
  (.seq
  (.reg false [
    ⟨some 15, .move (.tmp 0), none, false, true, false⟩,
    ⟨some 16, .call ⟨.value (.func 17), #[.tmp 15], #[3]⟩, none, false, true, false⟩,
    ⟨some 9, .assign (.tmp 16), none, false, true, false⟩])
  (.seq
  (.reg false [
    ⟨some 10, .assign (.const (.int .u64 0)), none, false, true, false⟩])
  (.seq
  (.seq
  (.reg false [
    ⟨some 17, .move (.tmp 9), none, false, true, false⟩,
    ⟨some 18, .binOp .sub 3 (.tmp 17) (.const (.int .i64 1)) 3, none, false, true, false⟩,
    ⟨some 11, .assign (.tmp 18), none, false, true, false⟩])
  (.block 0
    (.loop
      (.seq
      (.seq
      (.reg false [
        ⟨some 19, .move (.tmp 11), none, false, true, false⟩,
        ⟨some 20, .binOp .geq 3 (.tmp 19) (.const (.int .i64 0)) 3, none, false, true, false⟩])
      (.cond (.tmp 20)
        .skip
        (.exit 0)))
      (.seq
      (.block 1
        (.seq
        (.reg false [
          ⟨some 23, .move (.tmp 2), none, false, true, false⟩,
          ⟨some 24, .move (.tmp 11), none, false, true, false⟩,
          ⟨some 25, .call ⟨.value (.func 31), #[.tmp 23, .tmp 24], #[3, 3]⟩, none, false, true, false⟩,
          ⟨some 12, .assign (.tmp 25), none, false, true, false⟩])
        (.seq
        (.reg false [
          ⟨some 26, .move (.tmp 3), none, false, true, false⟩,
          ⟨some 27, .move (.tmp 11), none, false, true, false⟩,
          ⟨some 28, .call ⟨.value (.func 31), #[.tmp 26, .tmp 27], #[3, 3]⟩, none, false, true, false⟩,
          ⟨some 13, .assign (.tmp 28), none, false, true, false⟩])
        (.seq
        (.reg false [
          ⟨some 14, .assign (.const (.bool false)), none, false, true, false⟩])
        (.seq
        (.seq
        (.reg false [
          ⟨some 29, .move (.tmp 1), none, false, true, false⟩])
        (.block 2
          (.seq
          (.reg false [
            ⟨some 31, .binOp .eql 9 (.tmp 29) (.const (.string ⟨#[38]⟩)) 9, none, false, true, false⟩,
            ⟨some 30, .assign (.tmp 31), none, false, true, false⟩])
          (.cond (.tmp 30)
            (.reg false [
              ⟨some 32, .move (.tmp 12), none, false, true, false⟩,
              ⟨some 33, .move (.tmp 32), none, false, true, false⟩,
              ⟨some 34, .move (.tmp 13), some (some 33, true), false, true, false⟩,
              ⟨some 35, .pick (.tmp 33) (.tmp 34) (.const (.bool false)), none, false, true, false⟩,
              ⟨some 14, .assign (.tmp 35), none, false, true, false⟩])
            (.seq
            (.reg false [
              ⟨some 37, .binOp .eql 9 (.tmp 29) (.const (.string ⟨#[124]⟩)) 9, none, false, true, false⟩,
              ⟨some 36, .assign (.tmp 37), none, false, true, false⟩])
            (.cond (.tmp 36)
              (.reg false [
                ⟨some 38, .move (.tmp 12), none, false, true, false⟩,
                ⟨some 39, .move (.tmp 38), none, false, true, false⟩,
                ⟨some 40, .move (.tmp 13), some (some 39, false), false, true, false⟩,
                ⟨some 41, .pick (.tmp 39) (.const (.bool true)) (.tmp 40), none, false, true, false⟩,
                ⟨some 14, .assign (.tmp 41), none, false, true, false⟩])
              (.seq
              (.reg false [
                ⟨some 43, .binOp .eql 9 (.tmp 29) (.const (.string ⟨#[94]⟩)) 9, none, false, true, false⟩,
                ⟨some 42, .assign (.tmp 43), none, false, true, false⟩])
              (.cond (.tmp 42)
                (.reg false [
                  ⟨some 44, .move (.tmp 12), none, false, true, false⟩,
                  ⟨some 45, .move (.tmp 13), none, false, true, false⟩,
                  ⟨some 46, .binOp .neq 4 (.tmp 44) (.tmp 45) 4, none, false, true, false⟩,
                  ⟨some 14, .assign (.tmp 46), none, false, true, false⟩])
                .skip))))))))
        (.seq
        (.reg false [
          ⟨some 47, .move (.tmp 10), none, false, true, false⟩,
          ⟨some 48, .binOp .mul 48 (.tmp 47) (.const (.int .u64 2)) 48, none, false, true, false⟩,
          ⟨some 10, .assign (.tmp 48), none, false, true, false⟩])
        (.seq
        (.reg false [
          ⟨some 49, .move (.tmp 14), none, false, true, false⟩])
        (.cond (.tmp 49)
          (.reg false [
            ⟨some 50, .move (.tmp 10), none, false, true, false⟩,
            ⟨some 51, .binOp .add 48 (.tmp 50) (.const (.int .u64 1)) 48, none, false, true, false⟩,
            ⟨some 10, .assign (.tmp 51), none, false, true, false⟩])
          .skip))))))))
      (.reg false [
        ⟨some 21, .move (.tmp 11), none, false, true, false⟩,
        ⟨some 22, .binOp .sub 3 (.tmp 21) (.const (.int .i64 1)) 3, none, false, true, false⟩,
        ⟨some 11, .assign (.tmp 22), none, false, true, false⟩]))))))
  (.seq
  (.reg false [
    ⟨some 52, .move (.tmp 0), none, false, true, false⟩,
    ⟨some 53, .move (.tmp 10), none, false, true, false⟩,
    ⟨some 54, .convert 48 3 (.tmp 53), none, false, true, false⟩,
    ⟨some 55, .call ⟨.value (.func 18), #[.tmp 52, .tmp 54], #[3, 3]⟩, none, false, true, false⟩,
    ⟨some 8, .assign (.tmp 55), none, false, true, false⟩])
  .ret)))))
def f24 : FI := ⟨c24, 56, [.tmp 8]⟩
theorem fn24 : AmEnv.fn 24 = some f24 := by kernel_rfl
/-- mortise/mortiseref01.shifted -/
def c25 : XC :=
  (.seq
  (.reg false [
    ⟨some 8, .assign (.const (.int .i64 0)), none, false, true, false⟩])
  (.seq
  (.reg false [
    ⟨some 12, .move (.tmp 0), none, false, true, false⟩,
    ⟨some 13, .call ⟨.value (.func 17), #[.tmp 12], #[3]⟩, none, false, true, false⟩,
    ⟨some 9, .assign (.tmp 13), none, false, true, false⟩])
  (.seq
  (.reg false [
    ⟨some 14, .move (.tmp 3), none, false, true, false⟩,
    ⟨some 15, .move (.tmp 9), none, false, true, false⟩,
    ⟨some 16, .binOp .rem 3 (.tmp 14) (.tmp 15) 3, none, false, true, false⟩,
    ⟨some 10, .assign (.tmp 16), none, false, true, false⟩])
  (.seq
  (.seq
  (.reg false [
    ⟨some 17, .move (.tmp 10), none, false, true, false⟩,
    ⟨some 18, .binOp .lss 3 (.tmp 17) (.const (.int .i64 0)) 3, none, false, true, false⟩])
  (.cond (.tmp 18)
    (.reg false [
      ⟨some 19, .move (.tmp 10), none, false, true, false⟩,
      ⟨some 20, .move (.tmp 9), none, false, true, false⟩,
      ⟨some 21, .binOp .add 3 (.tmp 19) (.tmp 20) 3, none, false, true, false⟩,
      ⟨some 10, .assign (.tmp 21), none, false, true, false⟩])
    .skip))
  (.seq
  (.seq
  (.reg false [
    ⟨some 11, .assign (.const (.int .i64 0)), none, false, true, false⟩])
  (.block 0
    (.loop
      (.seq
      (.seq
      (.reg false [
        ⟨some 22, .move (.tmp 11), none, false, true, false⟩,
        ⟨some 23, .move (.tmp 10), none, false, true, false⟩,
        ⟨some 24, .binOp .lss 3 (.tmp 22) (.tmp 23) 3, none, false, true, false⟩])
      (.cond (.tmp 24)
        .skip
        (.exit 0)))
      (.seq
      (.block 1
        (.seq
        (.reg false [
          ⟨some 27, .move (.tmp 1), none, false, true, false⟩,
          ⟨some 28, .binOp .eql 9 (.tmp 27) (.const (.string ⟨#[60, 60]⟩)) 9, none, false, true, false⟩])
        (.cond (.tmp 28)
          (.reg false [
            ⟨some 29, .move (.tmp 0), none, false, true, false⟩,
            ⟨some 30, .move (.tmp 2), none, false, true, false⟩,
            ⟨some 31, .move (.tmp 2), none, false, true, false⟩,
            ⟨some 32, .binOp .add 3 (.tmp 30) (.tmp 31) 3, none, false, true, false⟩,
            ⟨some 33, .call ⟨.value (.func 18), #[.tmp 29, .tmp 32], #[3, 3]⟩, none, false, true, false⟩,
            ⟨some 2, .assign (.tmp 33), none, false, true, false⟩])
          (.seq
          (.reg false [
            ⟨some 34, .move (.tmp 2), none, false, true, false⟩,
            ⟨some 35, .binOp .lss 3 (.tmp 34) (.const (.int .i64 0)) 3, none, false, true, false⟩,
            ⟨some 36, .move (.tmp 35), none, false, true, false⟩,
            ⟨some 37, .move (.tmp 2), some (some 36, true), false, true, false⟩,
            ⟨some 38, .binOp .rem 3 (.tmp 37) (.const (.int .i64 2)) 3, some (some 36, true), false, true, false⟩,
            ⟨some 39, .binOp .neq 3 (.tmp 38) (.const (.int .i64 0)) 3, some (some 36, true), false, true, false⟩,
            ⟨some 40, .pick (.tmp 36) (.tmp 39) (.const (.bool false)), none, false, true, false⟩])
          (.cond (.tmp 40)
            (.reg false [
              ⟨some 41, .move (.tmp 2), none, false, true, false⟩,
              ⟨some 42, .binOp .quo 3 (.tmp 41) (.const (.int .i64 2)) 3, none, false, true, false⟩,
              ⟨some 43, .binOp .sub 3 (.tmp 42) (.const (.int .i64 1)) 3, none, false, true, false⟩,
              ⟨some 2, .assign (.tmp 43), none, false, true, false⟩])
            (.reg false [
              ⟨some 44, .move (.tmp 2), none, false, true, false⟩,
              ⟨some 45, .binOp .quo 3 (.tmp 44) (.const (.int .i64 2)) 3, none, false, true, false⟩,
              ⟨some 2, .assign (.tmp 45), none, false, true, false⟩]))))))
      (.reg false [
        ⟨some 25, .move (.tmp 11), none, false, true, false⟩,
        ⟨some 26, .binOp .add 3 (.tmp 25) (.const (.int .i64 1)) 3, none, false, true, false⟩,
        ⟨some 11, .assign (.tmp 26), none, false, true, false⟩]))))))
  (.seq
  (.reg false [
    ⟨some 46, .move (.tmp 2), none, false, true, false⟩,
    ⟨some 8, .assign (.tmp 46), none, false, true, false⟩])
  .ret))))))
def f25 : FI := ⟨c25, 47, [.tmp 8]⟩
theorem fn25 : AmEnv.fn 25 = some f25 := by kernel_rfl
/-- mortise/mortiseref01.one -/
def c26 : XC :=
  (.seq
  (.reg false [
    ⟨some 2, .assign (.const (.int .i64 0)), none, false, true, false⟩])
  (.seq
  (.seq
  (.reg false [
    ⟨some 3, .move (.tmp 0), none, false, true, false⟩])
  (.cond (.tmp 3)
    (.seq
    (.reg false [
      ⟨some 2, .assign (.const (.int .i64 1)), none, false, true, false⟩])
    .ret)
    .skip))
  (.seq
  (.reg false [
    ⟨some 2, .assign (.const (.int .i64 0)), none, false, true, false⟩])
  .ret)))
def f26 : FI := ⟨c26, 4, [.tmp 2]⟩
theorem fn26 : AmEnv.fn 26 = some f26 := by kernel_rfl
/-- mortise/word.divide[int32] -/
def c27 : XC :=
  (.seq
  (.reg false [
    ⟨some 6, .assign (.const (.int .i32 0)), none, false, true, false⟩,
    ⟨some 7, .assign (.const (.int .i64 0)), none, false, true, false⟩])
  (.seq
  (.block 0
    (.seq
    (.reg false [
      ⟨some 9, .move (.tmp 2), none, false, true, false⟩,
      ⟨some 10, .binOp .eql 21 (.tmp 9) (.const (.int .i32 0)) 21, none, false, true, false⟩,
      ⟨some 8, .assign (.tmp 10), none, false, true, false⟩])
    (.cond (.tmp 8)
      (.seq
      (.reg false [
        ⟨some 6, .assign (.const (.int .i32 0)), none, false, true, false⟩,
        ⟨some 7, .assign (.const (.int .i64 1)), none, false, true, false⟩])
      .ret)
      (.seq
      (.reg false [
        ⟨some 12, .move (.tmp 0), none, false, true, false⟩,
        ⟨some 13, .binOp .eql 9 (.tmp 12) (.const (.string ⟨#[37]⟩)) 9, none, false, true, false⟩,
        ⟨some 14, .move (.tmp 13), none, false, true, false⟩,
        ⟨some 15, .move (.tmp 2), some (some 14, true), false, true, false⟩,
        ⟨some 16, .binOp .eql 21 (.tmp 15) (.const (.int .i32 (-1))) 21, some (some 14, true), false, true, false⟩,
        ⟨some 17, .pick (.tmp 14) (.tmp 16) (.const (.bool false)), none, false, true, false⟩,
        ⟨some 11, .assign (.tmp 17), none, false, true, false⟩])
      (.cond (.tmp 11)
        (.seq
        (.reg false [
          ⟨some 6, .assign (.const (.int .i32 0)), none, false, true, false⟩,
          ⟨some 7, .assign (.const (.int .i64 0)), none, false, true, false⟩])
        .ret)
        (.seq
        (.reg false [
          ⟨some 19, .move (.tmp 0), none, false, true, false⟩,
          ⟨some 20, .binOp .eql 9 (.tmp 19) (.const (.string ⟨#[37]⟩)) 9, none, false, true, false⟩,
          ⟨some 18, .assign (.tmp 20), none, false, true, false⟩])
        (.cond (.tmp 18)
          (.seq
          (.reg false [
            ⟨some 21, .move (.tmp 1), none, false, true, false⟩,
            ⟨some 22, .move (.tmp 2), none, false, true, false⟩,
            ⟨some 23, .binOp .rem 21 (.tmp 21) (.tmp 22) 21, none, false, true, false⟩,
            ⟨some 6, .assign (.tmp 23), none, false, true, false⟩,
            ⟨some 7, .assign (.const (.int .i64 0)), none, false, true, false⟩])
          .ret)
          (.seq
          (.reg false [
            ⟨some 25, .move (.tmp 2), none, false, true, false⟩,
            ⟨some 26, .binOp .eql 21 (.tmp 25) (.const (.int .i32 (-1))) 21, none, false, true, false⟩,
            ⟨some 27, .move (.tmp 26), none, false, true, false⟩,
            ⟨some 28, .move (.tmp 1), some (some 27, true), false, true, false⟩,
            ⟨some 29, .binOp .neq 21 (.tmp 28) (.const (.int .i32 0)) 21, some (some 27, true), false, true, false⟩,
            ⟨some 30, .pick (.tmp 27) (.tmp 29) (.const (.bool false)), none, false, true, false⟩,
            ⟨some 31, .move (.tmp 30), none, false, true, false⟩,
            ⟨some 32, .move (.tmp 1), some (some 31, true), false, true, false⟩,
            ⟨some 33, .unOp .neg 21 (.tmp 32), some (some 31, true), false, true, false⟩,
            ⟨some 34, .move (.tmp 1), some (some 31, true), false, true, false⟩,
            ⟨some 35, .binOp .eql 21 (.tmp 33) (.tmp 34) 21, some (some 31, true), false, true, false⟩,
            ⟨some 36, .pick (.tmp 31) (.tmp 35) (.const (.bool false)), none, false, true, false⟩,
            ⟨some 24, .assign (.tmp 36), none, false, true, false⟩])
          (.cond (.tmp 24)
            (.seq
            (.reg false [
              ⟨some 6, .assign (.const (.int .i32 0)), none, false, true, false⟩,
              ⟨some 7, .assign (.const (.int .i64 2)), none, false, true, false⟩])
            .ret)
            .skip)))))))))
  (.seq
  (.reg false [
    ⟨some 37, .move (.tmp 1), none, false, true, false⟩,
    ⟨some 38, .move (.tmp 2), none, false, true, false⟩,
    ⟨some 39, .binOp .quo 21 (.tmp 37) (.tmp 38) 21, none, false, true, false⟩,
    ⟨some 6, .assign (.tmp 39), none, false, true, false⟩,
    ⟨some 7, .assign (.const (.int .i64 0)), none, false, true, false⟩])
  .ret)))
def f27 : FI := ⟨c27, 40, [.tmp 6, .tmp 7]⟩
theorem fn27 : AmEnv.fn 27 = some f27 := by kernel_rfl
/-- mortise/word.does[int32] -/
def c28 : XC :=
  (.seq
  (.reg false [
    ⟨some 8, .assign (.const (.int .i32 0)), none, false, true, false⟩])
  (.seq
  (.reg false [
    ⟨some 10, .move (.tmp 2), none, false, true, false⟩,
    ⟨some 11, .convert 21 33 (.tmp 10), none, false, true, false⟩,
    ⟨some 12, .move (.tmp 3), none, false, true, false⟩,
    ⟨some 13, .binOp .sub 3 (.tmp 12) (.const (.int .i64 1)) 3, none, false, true, false⟩,
    ⟨some 14, .convert 3 33 (.tmp 13), none, false, true, false⟩,
    ⟨some 15, .binOp .and 33 (.tmp 11) (.tmp 14) 33, none, false, true, false⟩,
    ⟨some 9, .assign (.tmp 15), none, false, true, false⟩])
  (.seq
  (.seq
  (.reg false [
    ⟨some 16, .move (.tmp 0), none, false, true, false⟩])
  (.block 0
    (.seq
    (.reg false [
      ⟨some 18, .binOp .eql 9 (.tmp 16) (.const (.string ⟨#[43]⟩)) 9, none, false, true, false⟩,
      ⟨some 17, .assign (.tmp 18), none, false, true, false⟩])
    (.cond (.tmp 17)
      (.seq
      (.reg false [
        ⟨some 19, .move (.tmp 1), none, false, true, false⟩,
        ⟨some 20, .move (.tmp 2), none, false, true, false⟩,
        ⟨some 21, .binOp .add 21 (.tmp 19) (.tmp 20) 21, none, false, true, false⟩,
        ⟨some 8, .assign (.tmp 21), none, false, true, false⟩])
      .ret)
      (.seq
      (.reg false [
        ⟨some 23, .binOp .eql 9 (.tmp 16) (.const (.string ⟨#[45]⟩)) 9, none, false, true, false⟩,
        ⟨some 22, .assign (.tmp 23), none, false, true, false⟩])
      (.cond (.tmp 22)
        (.seq
        (.reg false [
          ⟨some 24, .move (.tmp 1), none, false, true, false⟩,
          ⟨some 25, .move (.tmp 2), none, false, true, false⟩,
          ⟨some 26, .binOp .sub 21 (.tmp 24) (.tmp 25) 21, none, false, true, false⟩,
          ⟨some 8, .assign (.tmp 26), none, false, true, false⟩])
        .ret)
        (.seq
        (.reg false [
          ⟨some 28, .binOp .eql 9 (.tmp 16) (.const (.string ⟨#[42]⟩)) 9, none, false, true, false⟩,
          ⟨some 27, .assign (.tmp 28), none, false, true, false⟩])
        (.cond (.tmp 27)
          (.seq
          (.reg false [
            ⟨some 29, .move (.tmp 1), none, false, true, false⟩,
            ⟨some 30, .move (.tmp 2), none, false, true, false⟩,
            ⟨some 31, .binOp .mul 21 (.tmp 29) (.tmp 30) 21, none, false, true, false⟩,
            ⟨some 8, .assign (.tmp 31), none, false, true, false⟩])
          .ret)
          (.seq
          (.reg false [
            ⟨some 33, .binOp .eql 9 (.tmp 16) (.const (.string ⟨#[38]⟩)) 9, none, false, true, false⟩,
            ⟨some 32, .assign (.tmp 33), none, false, true, false⟩])
          (.cond (.tmp 32)
            (.seq
            (.reg false [
              ⟨some 34, .move (.tmp 1), none, false, true, false⟩,
              ⟨some 35, .move (.tmp 2), none, false, true, false⟩,
              ⟨some 36, .binOp .and 21 (.tmp 34) (.tmp 35) 21, none, false, true, false⟩,
              ⟨some 8, .assign (.tmp 36), none, false, true, false⟩])
            .ret)
            (.seq
            (.reg false [
              ⟨some 38, .binOp .eql 9 (.tmp 16) (.const (.string ⟨#[124]⟩)) 9, none, false, true, false⟩,
              ⟨some 37, .assign (.tmp 38), none, false, true, false⟩])
            (.cond (.tmp 37)
              (.seq
              (.reg false [
                ⟨some 39, .move (.tmp 1), none, false, true, false⟩,
                ⟨some 40, .move (.tmp 2), none, false, true, false⟩,
                ⟨some 41, .binOp .or 21 (.tmp 39) (.tmp 40) 21, none, false, true, false⟩,
                ⟨some 8, .assign (.tmp 41), none, false, true, false⟩])
              .ret)
              (.seq
              (.reg false [
                ⟨some 43, .binOp .eql 9 (.tmp 16) (.const (.string ⟨#[94]⟩)) 9, none, false, true, false⟩,
                ⟨some 42, .assign (.tmp 43), none, false, true, false⟩])
              (.cond (.tmp 42)
                (.seq
                (.reg false [
                  ⟨some 44, .move (.tmp 1), none, false, true, false⟩,
                  ⟨some 45, .move (.tmp 2), none, false, true, false⟩,
                  ⟨some 46, .binOp .xor 21 (.tmp 44) (.tmp 45) 21, none, false, true, false⟩,
                  ⟨some 8, .assign (.tmp 46), none, false, true, false⟩])
                .ret)
                (.seq
                (.reg false [
                  ⟨some 48, .binOp .eql 9 (.tmp 16) (.const (.string ⟨#[60, 60]⟩)) 9, none, false, true, false⟩,
                  ⟨some 47, .assign (.tmp 48), none, false, true, false⟩])
                (.cond (.tmp 47)
                  (.seq
                  (.reg false [
                    ⟨some 49, .move (.tmp 1), none, false, true, false⟩,
                    ⟨some 50, .move (.tmp 9), none, false, true, false⟩,
                    ⟨some 51, .binOp .shl 21 (.tmp 49) (.tmp 50) 33, none, false, true, false⟩,
                    ⟨some 8, .assign (.tmp 51), none, false, true, false⟩])
                  .ret)
                  (.seq
                  (.reg false [
                    ⟨some 53, .binOp .eql 9 (.tmp 16) (.const (.string ⟨#[62, 62]⟩)) 9, none, false, true, false⟩,
                    ⟨some 52, .assign (.tmp 53), none, false, true, false⟩])
                  (.cond (.tmp 52)
                    (.seq
                    (.reg false [
                      ⟨some 54, .move (.tmp 1), none, false, true, false⟩,
                      ⟨some 55, .move (.tmp 9), none, false, true, false⟩,
                      ⟨some 56, .binOp .shr 21 (.tmp 54) (.tmp 55) 33, none, false, true, false⟩,
                      ⟨some 8, .assign (.tmp 56), none, false, true, false⟩])
                    .ret)
                    (.seq
                    (.reg false [
                      ⟨some 58, .binOp .eql 9 (.tmp 16) (.const (.string ⟨#[61, 61]⟩)) 9, none, false, true, false⟩,
                      ⟨some 57, .assign (.tmp 58), none, false, true, false⟩])
                    (.cond (.tmp 57)
                      (.seq
                      (.reg false [
                        ⟨some 59, .move (.tmp 1), none, false, true, false⟩,
                        ⟨some 60, .move (.tmp 2), none, false, true, false⟩,
                        ⟨some 61, .binOp .eql 21 (.tmp 59) (.tmp 60) 21, none, false, true, false⟩,
                        ⟨some 62, .call ⟨.value (.func 32), #[.tmp 61], #[4]⟩, none, false, true, false⟩,
                        ⟨some 8, .assign (.tmp 62), none, false, true, false⟩])
                      .ret)
                      (.seq
                      (.reg false [
                        ⟨some 64, .binOp .eql 9 (.tmp 16) (.const (.string ⟨#[33, 61]⟩)) 9, none, false, true, false⟩,
                        ⟨some 63, .assign (.tmp 64), none, false, true, false⟩])
                      (.cond (.tmp 63)
                        (.seq
                        (.reg false [
                          ⟨some 65, .move (.tmp 1), none, false, true, false⟩,
                          ⟨some 66, .move (.tmp 2), none, false, true, false⟩,
                          ⟨some 67, .binOp .neq 21 (.tmp 65) (.tmp 66) 21, none, false, true, false⟩,
                          ⟨some 68, .call ⟨.value (.func 32), #[.tmp 67], #[4]⟩, none, false, true, false⟩,
                          ⟨some 8, .assign (.tmp 68), none, false, true, false⟩])
                        .ret)
                        (.seq
                        (.reg false [
                          ⟨some 70, .binOp .eql 9 (.tmp 16) (.const (.string ⟨#[60]⟩)) 9, none, false, true, false⟩,
                          ⟨some 69, .assign (.tmp 70), none, false, true, false⟩])
                        (.cond (.tmp 69)
                          (.seq
                          (.reg false [
                            ⟨some 71, .move (.tmp 1), none, false, true, false⟩,
                            ⟨some 72, .move (.tmp 2), none, false, true, false⟩,
                            ⟨some 73, .binOp .lss 21 (.tmp 71) (.tmp 72) 21, none, false, true, false⟩,
                            ⟨some 74, .call ⟨.value (.func 32), #[.tmp 73], #[4]⟩, none, false, true, false⟩,
                            ⟨some 8, .assign (.tmp 74), none, false, true, false⟩])
                          .ret)
                          (.seq
                          (.reg false [
                            ⟨some 76, .binOp .eql 9 (.tmp 16) (.const (.string ⟨#[60, 61]⟩)) 9, none, false, true, false⟩,
                            ⟨some 75, .assign (.tmp 76), none, false, true, false⟩])
                          (.cond (.tmp 75)
                            (.seq
                            (.reg false [
                              ⟨some 77, .move (.tmp 1), none, false, true, false⟩,
                              ⟨some 78, .move (.tmp 2), none, false, true, false⟩,
                              ⟨some 79, .binOp .leq 21 (.tmp 77) (.tmp 78) 21, none, false, true, false⟩,
                              ⟨some 80, .call ⟨.value (.func 32), #[.tmp 79], #[4]⟩, none, false, true, false⟩,
                              ⟨some 8, .assign (.tmp 80), none, false, true, false⟩])
                            .ret)
                            (.seq
                            (.reg false [
                              ⟨some 82, .binOp .eql 9 (.tmp 16) (.const (.string ⟨#[62]⟩)) 9, none, false, true, false⟩,
                              ⟨some 81, .assign (.tmp 82), none, false, true, false⟩])
                            (.cond (.tmp 81)
                              (.seq
                              (.reg false [
                                ⟨some 83, .move (.tmp 1), none, false, true, false⟩,
                                ⟨some 84, .move (.tmp 2), none, false, true, false⟩,
                                ⟨some 85, .binOp .gtr 21 (.tmp 83) (.tmp 84) 21, none, false, true, false⟩,
                                ⟨some 86, .call ⟨.value (.func 32), #[.tmp 85], #[4]⟩, none, false, true, false⟩,
                                ⟨some 8, .assign (.tmp 86), none, false, true, false⟩])
                              .ret)
                              (.seq
                              (.reg false [
                                ⟨some 88, .binOp .eql 9 (.tmp 16) (.const (.string ⟨#[62, 61]⟩)) 9, none, false, true, false⟩,
                                ⟨some 87, .assign (.tmp 88), none, false, true, false⟩])
                              (.cond (.tmp 87)
                                (.seq
                                (.reg false [
                                  ⟨some 89, .move (.tmp 1), none, false, true, false⟩,
                                  ⟨some 90, .move (.tmp 2), none, false, true, false⟩,
                                  ⟨some 91, .binOp .geq 21 (.tmp 89) (.tmp 90) 21, none, false, true, false⟩,
                                  ⟨some 92, .call ⟨.value (.func 32), #[.tmp 91], #[4]⟩, none, false, true, false⟩,
                                  ⟨some 8, .assign (.tmp 92), none, false, true, false⟩])
                                .ret)
                                .skip))))))))))))))))))))))))))))))
  (.seq
  (.reg false [
    ⟨some 8, .assign (.const (.int .i32 0)), none, false, true, false⟩])
  .ret))))
def f28 : FI := ⟨c28, 93, [.tmp 8]⟩
theorem fn28 : AmEnv.fn 28 = some f28 := by kernel_rfl
/-- mortise/word.divide[int64] -/
def c29 : XC :=
  (.seq
  (.reg false [
    ⟨some 6, .assign (.const (.int .i64 0)), none, false, true, false⟩,
    ⟨some 7, .assign (.const (.int .i64 0)), none, false, true, false⟩])
  (.seq
  (.block 0
    (.seq
    (.reg false [
      ⟨some 9, .move (.tmp 2), none, false, true, false⟩,
      ⟨some 10, .binOp .eql 2 (.tmp 9) (.const (.int .i64 0)) 2, none, false, true, false⟩,
      ⟨some 8, .assign (.tmp 10), none, false, true, false⟩])
    (.cond (.tmp 8)
      (.seq
      (.reg false [
        ⟨some 6, .assign (.const (.int .i64 0)), none, false, true, false⟩,
        ⟨some 7, .assign (.const (.int .i64 1)), none, false, true, false⟩])
      .ret)
      (.seq
      (.reg false [
        ⟨some 12, .move (.tmp 0), none, false, true, false⟩,
        ⟨some 13, .binOp .eql 9 (.tmp 12) (.const (.string ⟨#[37]⟩)) 9, none, false, true, false⟩,
        ⟨some 14, .move (.tmp 13), none, false, true, false⟩,
        ⟨some 15, .move (.tmp 2), some (some 14, true), false, true, false⟩,
        ⟨some 16, .binOp .eql 2 (.tmp 15) (.const (.int .i64 (-1))) 2, some (some 14, true), false, true, false⟩,
        ⟨some 17, .pick (.tmp 14) (.tmp 16) (.const (.bool false)), none, false, true, false⟩,
        ⟨some 11, .assign (.tmp 17), none, false, true, false⟩])
      (.cond (.tmp 11)
        (.seq
        (.reg false [
          ⟨some 6, .assign (.const (.int .i64 0)), none, false, true, false⟩,
          ⟨some 7, .assign (.const (.int .i64 0)), none, false, true, false⟩])
        .ret)
        (.seq
        (.reg false [
          ⟨some 19, .move (.tmp 0), none, false, true, false⟩,
          ⟨some 20, .binOp .eql 9 (.tmp 19) (.const (.string ⟨#[37]⟩)) 9, none, false, true, false⟩,
          ⟨some 18, .assign (.tmp 20), none, false, true, false⟩])
        (.cond (.tmp 18)
          (.seq
          (.reg false [
            ⟨some 21, .move (.tmp 1), none, false, true, false⟩,
            ⟨some 22, .move (.tmp 2), none, false, true, false⟩,
            ⟨some 23, .binOp .rem 2 (.tmp 21) (.tmp 22) 2, none, false, true, false⟩,
            ⟨some 6, .assign (.tmp 23), none, false, true, false⟩,
            ⟨some 7, .assign (.const (.int .i64 0)), none, false, true, false⟩])
          .ret)
          (.seq
          (.reg false [
            ⟨some 25, .move (.tmp 2), none, false, true, false⟩,
            ⟨some 26, .binOp .eql 2 (.tmp 25) (.const (.int .i64 (-1))) 2, none, false, true, false⟩,
            ⟨some 27, .move (.tmp 26), none, false, true, false⟩,
            ⟨some 28, .move (.tmp 1), some (some 27, true), false, true, false⟩,
            ⟨some 29, .binOp .neq 2 (.tmp 28) (.const (.int .i64 0)) 2, some (some 27, true), false, true, false⟩,
            ⟨some 30, .pick (.tmp 27) (.tmp 29) (.const (.bool false)), none, false, true, false⟩,
            ⟨some 31, .move (.tmp 30), none, false, true, false⟩,
            ⟨some 32, .move (.tmp 1), some (some 31, true), false, true, false⟩,
            ⟨some 33, .unOp .neg 2 (.tmp 32), some (some 31, true), false, true, false⟩,
            ⟨some 34, .move (.tmp 1), some (some 31, true), false, true, false⟩,
            ⟨some 35, .binOp .eql 2 (.tmp 33) (.tmp 34) 2, some (some 31, true), false, true, false⟩,
            ⟨some 36, .pick (.tmp 31) (.tmp 35) (.const (.bool false)), none, false, true, false⟩,
            ⟨some 24, .assign (.tmp 36), none, false, true, false⟩])
          (.cond (.tmp 24)
            (.seq
            (.reg false [
              ⟨some 6, .assign (.const (.int .i64 0)), none, false, true, false⟩,
              ⟨some 7, .assign (.const (.int .i64 2)), none, false, true, false⟩])
            .ret)
            .skip)))))))))
  (.seq
  (.reg false [
    ⟨some 37, .move (.tmp 1), none, false, true, false⟩,
    ⟨some 38, .move (.tmp 2), none, false, true, false⟩,
    ⟨some 39, .binOp .quo 2 (.tmp 37) (.tmp 38) 2, none, false, true, false⟩,
    ⟨some 6, .assign (.tmp 39), none, false, true, false⟩,
    ⟨some 7, .assign (.const (.int .i64 0)), none, false, true, false⟩])
  .ret)))
def f29 : FI := ⟨c29, 40, [.tmp 6, .tmp 7]⟩
theorem fn29 : AmEnv.fn 29 = some f29 := by kernel_rfl
/-- mortise/word.does[int64] -/
def c30 : XC :=
  (.seq
  (.reg false [
    ⟨some 8, .assign (.const (.int .i64 0)), none, false, true, false⟩])
  (.seq
  (.reg false [
    ⟨some 10, .move (.tmp 2), none, false, true, false⟩,
    ⟨some 11, .convert 2 33 (.tmp 10), none, false, true, false⟩,
    ⟨some 12, .move (.tmp 3), none, false, true, false⟩,
    ⟨some 13, .binOp .sub 3 (.tmp 12) (.const (.int .i64 1)) 3, none, false, true, false⟩,
    ⟨some 14, .convert 3 33 (.tmp 13), none, false, true, false⟩,
    ⟨some 15, .binOp .and 33 (.tmp 11) (.tmp 14) 33, none, false, true, false⟩,
    ⟨some 9, .assign (.tmp 15), none, false, true, false⟩])
  (.seq
  (.seq
  (.reg false [
    ⟨some 16, .move (.tmp 0), none, false, true, false⟩])
  (.block 0
    (.seq
    (.reg false [
      ⟨some 18, .binOp .eql 9 (.tmp 16) (.const (.string ⟨#[43]⟩)) 9, none, false, true, false⟩,
      ⟨some 17, .assign (.tmp 18), none, false, true, false⟩])
    (.cond (.tmp 17)
      (.seq
      (.reg false [
        ⟨some 19, .move (.tmp 1), none, false, true, false⟩,
        ⟨some 20, .move (.tmp 2), none, false, true, false⟩,
        ⟨some 21, .binOp .add 2 (.tmp 19) (.tmp 20) 2, none, false, true, false⟩,
        ⟨some 8, .assign (.tmp 21), none, false, true, false⟩])
      .ret)
      (.seq
      (.reg false [
        ⟨some 23, .binOp .eql 9 (.tmp 16) (.const (.string ⟨#[45]⟩)) 9, none, false, true, false⟩,
        ⟨some 22, .assign (.tmp 23), none, false, true, false⟩])
      (.cond (.tmp 22)
        (.seq
        (.reg false [
          ⟨some 24, .move (.tmp 1), none, false, true, false⟩,
          ⟨some 25, .move (.tmp 2), none, false, true, false⟩,
          ⟨some 26, .binOp .sub 2 (.tmp 24) (.tmp 25) 2, none, false, true, false⟩,
          ⟨some 8, .assign (.tmp 26), none, false, true, false⟩])
        .ret)
        (.seq
        (.reg false [
          ⟨some 28, .binOp .eql 9 (.tmp 16) (.const (.string ⟨#[42]⟩)) 9, none, false, true, false⟩,
          ⟨some 27, .assign (.tmp 28), none, false, true, false⟩])
        (.cond (.tmp 27)
          (.seq
          (.reg false [
            ⟨some 29, .move (.tmp 1), none, false, true, false⟩,
            ⟨some 30, .move (.tmp 2), none, false, true, false⟩,
            ⟨some 31, .binOp .mul 2 (.tmp 29) (.tmp 30) 2, none, false, true, false⟩,
            ⟨some 8, .assign (.tmp 31), none, false, true, false⟩])
          .ret)
          (.seq
          (.reg false [
            ⟨some 33, .binOp .eql 9 (.tmp 16) (.const (.string ⟨#[38]⟩)) 9, none, false, true, false⟩,
            ⟨some 32, .assign (.tmp 33), none, false, true, false⟩])
          (.cond (.tmp 32)
            (.seq
            (.reg false [
              ⟨some 34, .move (.tmp 1), none, false, true, false⟩,
              ⟨some 35, .move (.tmp 2), none, false, true, false⟩,
              ⟨some 36, .binOp .and 2 (.tmp 34) (.tmp 35) 2, none, false, true, false⟩,
              ⟨some 8, .assign (.tmp 36), none, false, true, false⟩])
            .ret)
            (.seq
            (.reg false [
              ⟨some 38, .binOp .eql 9 (.tmp 16) (.const (.string ⟨#[124]⟩)) 9, none, false, true, false⟩,
              ⟨some 37, .assign (.tmp 38), none, false, true, false⟩])
            (.cond (.tmp 37)
              (.seq
              (.reg false [
                ⟨some 39, .move (.tmp 1), none, false, true, false⟩,
                ⟨some 40, .move (.tmp 2), none, false, true, false⟩,
                ⟨some 41, .binOp .or 2 (.tmp 39) (.tmp 40) 2, none, false, true, false⟩,
                ⟨some 8, .assign (.tmp 41), none, false, true, false⟩])
              .ret)
              (.seq
              (.reg false [
                ⟨some 43, .binOp .eql 9 (.tmp 16) (.const (.string ⟨#[94]⟩)) 9, none, false, true, false⟩,
                ⟨some 42, .assign (.tmp 43), none, false, true, false⟩])
              (.cond (.tmp 42)
                (.seq
                (.reg false [
                  ⟨some 44, .move (.tmp 1), none, false, true, false⟩,
                  ⟨some 45, .move (.tmp 2), none, false, true, false⟩,
                  ⟨some 46, .binOp .xor 2 (.tmp 44) (.tmp 45) 2, none, false, true, false⟩,
                  ⟨some 8, .assign (.tmp 46), none, false, true, false⟩])
                .ret)
                (.seq
                (.reg false [
                  ⟨some 48, .binOp .eql 9 (.tmp 16) (.const (.string ⟨#[60, 60]⟩)) 9, none, false, true, false⟩,
                  ⟨some 47, .assign (.tmp 48), none, false, true, false⟩])
                (.cond (.tmp 47)
                  (.seq
                  (.reg false [
                    ⟨some 49, .move (.tmp 1), none, false, true, false⟩,
                    ⟨some 50, .move (.tmp 9), none, false, true, false⟩,
                    ⟨some 51, .binOp .shl 2 (.tmp 49) (.tmp 50) 33, none, false, true, false⟩,
                    ⟨some 8, .assign (.tmp 51), none, false, true, false⟩])
                  .ret)
                  (.seq
                  (.reg false [
                    ⟨some 53, .binOp .eql 9 (.tmp 16) (.const (.string ⟨#[62, 62]⟩)) 9, none, false, true, false⟩,
                    ⟨some 52, .assign (.tmp 53), none, false, true, false⟩])
                  (.cond (.tmp 52)
                    (.seq
                    (.reg false [
                      ⟨some 54, .move (.tmp 1), none, false, true, false⟩,
                      ⟨some 55, .move (.tmp 9), none, false, true, false⟩,
                      ⟨some 56, .binOp .shr 2 (.tmp 54) (.tmp 55) 33, none, false, true, false⟩,
                      ⟨some 8, .assign (.tmp 56), none, false, true, false⟩])
                    .ret)
                    (.seq
                    (.reg false [
                      ⟨some 58, .binOp .eql 9 (.tmp 16) (.const (.string ⟨#[61, 61]⟩)) 9, none, false, true, false⟩,
                      ⟨some 57, .assign (.tmp 58), none, false, true, false⟩])
                    (.cond (.tmp 57)
                      (.seq
                      (.reg false [
                        ⟨some 59, .move (.tmp 1), none, false, true, false⟩,
                        ⟨some 60, .move (.tmp 2), none, false, true, false⟩,
                        ⟨some 61, .binOp .eql 2 (.tmp 59) (.tmp 60) 2, none, false, true, false⟩,
                        ⟨some 62, .call ⟨.value (.func 33), #[.tmp 61], #[4]⟩, none, false, true, false⟩,
                        ⟨some 8, .assign (.tmp 62), none, false, true, false⟩])
                      .ret)
                      (.seq
                      (.reg false [
                        ⟨some 64, .binOp .eql 9 (.tmp 16) (.const (.string ⟨#[33, 61]⟩)) 9, none, false, true, false⟩,
                        ⟨some 63, .assign (.tmp 64), none, false, true, false⟩])
                      (.cond (.tmp 63)
                        (.seq
                        (.reg false [
                          ⟨some 65, .move (.tmp 1), none, false, true, false⟩,
                          ⟨some 66, .move (.tmp 2), none, false, true, false⟩,
                          ⟨some 67, .binOp .neq 2 (.tmp 65) (.tmp 66) 2, none, false, true, false⟩,
                          ⟨some 68, .call ⟨.value (.func 33), #[.tmp 67], #[4]⟩, none, false, true, false⟩,
                          ⟨some 8, .assign (.tmp 68), none, false, true, false⟩])
                        .ret)
                        (.seq
                        (.reg false [
                          ⟨some 70, .binOp .eql 9 (.tmp 16) (.const (.string ⟨#[60]⟩)) 9, none, false, true, false⟩,
                          ⟨some 69, .assign (.tmp 70), none, false, true, false⟩])
                        (.cond (.tmp 69)
                          (.seq
                          (.reg false [
                            ⟨some 71, .move (.tmp 1), none, false, true, false⟩,
                            ⟨some 72, .move (.tmp 2), none, false, true, false⟩,
                            ⟨some 73, .binOp .lss 2 (.tmp 71) (.tmp 72) 2, none, false, true, false⟩,
                            ⟨some 74, .call ⟨.value (.func 33), #[.tmp 73], #[4]⟩, none, false, true, false⟩,
                            ⟨some 8, .assign (.tmp 74), none, false, true, false⟩])
                          .ret)
                          (.seq
                          (.reg false [
                            ⟨some 76, .binOp .eql 9 (.tmp 16) (.const (.string ⟨#[60, 61]⟩)) 9, none, false, true, false⟩,
                            ⟨some 75, .assign (.tmp 76), none, false, true, false⟩])
                          (.cond (.tmp 75)
                            (.seq
                            (.reg false [
                              ⟨some 77, .move (.tmp 1), none, false, true, false⟩,
                              ⟨some 78, .move (.tmp 2), none, false, true, false⟩,
                              ⟨some 79, .binOp .leq 2 (.tmp 77) (.tmp 78) 2, none, false, true, false⟩,
                              ⟨some 80, .call ⟨.value (.func 33), #[.tmp 79], #[4]⟩, none, false, true, false⟩,
                              ⟨some 8, .assign (.tmp 80), none, false, true, false⟩])
                            .ret)
                            (.seq
                            (.reg false [
                              ⟨some 82, .binOp .eql 9 (.tmp 16) (.const (.string ⟨#[62]⟩)) 9, none, false, true, false⟩,
                              ⟨some 81, .assign (.tmp 82), none, false, true, false⟩])
                            (.cond (.tmp 81)
                              (.seq
                              (.reg false [
                                ⟨some 83, .move (.tmp 1), none, false, true, false⟩,
                                ⟨some 84, .move (.tmp 2), none, false, true, false⟩,
                                ⟨some 85, .binOp .gtr 2 (.tmp 83) (.tmp 84) 2, none, false, true, false⟩,
                                ⟨some 86, .call ⟨.value (.func 33), #[.tmp 85], #[4]⟩, none, false, true, false⟩,
                                ⟨some 8, .assign (.tmp 86), none, false, true, false⟩])
                              .ret)
                              (.seq
                              (.reg false [
                                ⟨some 88, .binOp .eql 9 (.tmp 16) (.const (.string ⟨#[62, 61]⟩)) 9, none, false, true, false⟩,
                                ⟨some 87, .assign (.tmp 88), none, false, true, false⟩])
                              (.cond (.tmp 87)
                                (.seq
                                (.reg false [
                                  ⟨some 89, .move (.tmp 1), none, false, true, false⟩,
                                  ⟨some 90, .move (.tmp 2), none, false, true, false⟩,
                                  ⟨some 91, .binOp .geq 2 (.tmp 89) (.tmp 90) 2, none, false, true, false⟩,
                                  ⟨some 92, .call ⟨.value (.func 33), #[.tmp 91], #[4]⟩, none, false, true, false⟩,
                                  ⟨some 8, .assign (.tmp 92), none, false, true, false⟩])
                                .ret)
                                .skip))))))))))))))))))))))))))))))
  (.seq
  (.reg false [
    ⟨some 8, .assign (.const (.int .i64 0)), none, false, true, false⟩])
  .ret))))
def f30 : FI := ⟨c30, 93, [.tmp 8]⟩
theorem fn30 : AmEnv.fn 30 = some f30 := by kernel_rfl
/-- mortise/mortiseref01.Bit -/
def c31 : XC :=
  (.seq
  (.reg false [
    ⟨some 4, .assign (.const (.bool false)), none, false, true, false⟩])
  (.seq
  (.reg false [
    ⟨some 7, .move (.tmp 0), none, false, true, false⟩,
    ⟨some 8, .convert 3 48 (.tmp 7), none, false, true, false⟩,
    ⟨some 5, .assign (.tmp 8), none, false, true, false⟩])
  (.seq
  (.seq
  (.reg false [
    ⟨some 6, .assign (.const (.int .i64 0)), none, false, true, false⟩])
  (.block 0
    (.loop
      (.seq
      (.seq
      (.reg false [
        ⟨some 9, .move (.tmp 6), none, false, true, false⟩,
        ⟨some 10, .move (.tmp 1), none, false, true, false⟩,
        ⟨some 11, .binOp .lss 3 (.tmp 9) (.tmp 10) 3, none, false, true, false⟩])
      (.cond (.tmp 11)
        .skip
        (.exit 0)))
      (.seq
      (.block 1
        (.reg false [
          ⟨some 14, .move (.tmp 5), none, false, true, false⟩,
          ⟨some 15, .binOp .quo 48 (.tmp 14) (.const (.int .u64 2)) 48, none, false, true, false⟩,
          ⟨some 5, .assign (.tmp 15), none, false, true, false⟩]))
      (.reg false [
        ⟨some 12, .move (.tmp 6), none, false, true, false⟩,
        ⟨some 13, .binOp .add 3 (.tmp 12) (.const (.int .i64 1)) 3, none, false, true, false⟩,
        ⟨some 6, .assign (.tmp 13), none, false, true, false⟩]))))))
  (.seq
  (.reg false [
    ⟨some 16, .move (.tmp 5), none, false, true, false⟩,
    ⟨some 17, .binOp .rem 48 (.tmp 16) (.const (.int .u64 2)) 48, none, false, true, false⟩,
    ⟨some 18, .binOp .eql 48 (.tmp 17) (.const (.int .u64 1)) 48, none, false, true, false⟩,
    ⟨some 4, .assign (.tmp 18), none, false, true, false⟩])
  .ret))))
def f31 : FI := ⟨c31, 19, [.tmp 4]⟩
theorem fn31 : AmEnv.fn 31 = some f31 := by kernel_rfl
/-- mortise/word.one[int32] -/
def c32 : XC :=
  (.seq
  (.reg false [
    ⟨some 2, .assign (.const (.int .i32 0)), none, false, true, false⟩])
  (.seq
  (.seq
  (.reg false [
    ⟨some 3, .move (.tmp 0), none, false, true, false⟩])
  (.cond (.tmp 3)
    (.seq
    (.reg false [
      ⟨some 2, .assign (.const (.int .i32 1)), none, false, true, false⟩])
    .ret)
    .skip))
  (.seq
  (.reg false [
    ⟨some 2, .assign (.const (.int .i32 0)), none, false, true, false⟩])
  .ret)))
def f32 : FI := ⟨c32, 4, [.tmp 2]⟩
theorem fn32 : AmEnv.fn 32 = some f32 := by kernel_rfl
/-- mortise/word.one[int64] -/
def c33 : XC :=
  (.seq
  (.reg false [
    ⟨some 2, .assign (.const (.int .i64 0)), none, false, true, false⟩])
  (.seq
  (.seq
  (.reg false [
    ⟨some 3, .move (.tmp 0), none, false, true, false⟩])
  (.cond (.tmp 3)
    (.seq
    (.reg false [
      ⟨some 2, .assign (.const (.int .i64 1)), none, false, true, false⟩])
    .ret)
    .skip))
  (.seq
  (.reg false [
    ⟨some 2, .assign (.const (.int .i64 0)), none, false, true, false⟩])
  .ret)))
def f33 : FI := ⟨c33, 4, [.tmp 2]⟩
theorem fn33 : AmEnv.fn 33 = some f33 := by kernel_rfl
theorem call3 {args : List AV} (h : Heap) (hn : args.length ≤ 106) : callω AmEnv.env 3 args h = afterBody AmEnv.env [.tmp 8] (evω AmEnv.env c3 (Tr.enter 106 args) h) := call_eq (E := AmEnv.env) (f := 3) (c := c3) (n := 106) (rs := [.tmp 8]) fn3 hn
theorem call4 {args : List AV} (h : Heap) (hn : args.length ≤ 99) : callω AmEnv.env 4 args h = afterBody AmEnv.env [.tmp 6] (evω AmEnv.env c4 (Tr.enter 99 args) h) := call_eq (E := AmEnv.env) (f := 4) (c := c4) (n := 99) (rs := [.tmp 6]) fn4 hn
theorem call5 {args : List AV} (h : Heap) (hn : args.length ≤ 56) : callω AmEnv.env 5 args h = afterBody AmEnv.env [.tmp 8] (evω AmEnv.env c5 (Tr.enter 56 args) h) := call_eq (E := AmEnv.env) (f := 5) (c := c5) (n := 56) (rs := [.tmp 8]) fn5 hn
theorem call6 {args : List AV} (h : Heap) (hn : args.length ≤ 150) : callω AmEnv.env 6 args h = afterBody AmEnv.env [.tmp 10] (evω AmEnv.env c6 (Tr.enter 150 args) h) := call_eq (E := AmEnv.env) (f := 6) (c := c6) (n := 150) (rs := [.tmp 10]) fn6 hn
theorem call7 {args : List AV} (h : Heap) (hn : args.length ≤ 117) : callω AmEnv.env 7 args h = afterBody AmEnv.env [.tmp 6] (evω AmEnv.env c7 (Tr.enter 117 args) h) := call_eq (E := AmEnv.env) (f := 7) (c := c7) (n := 117) (rs := [.tmp 6]) fn7 hn
theorem call8 {args : List AV} (h : Heap) (hn : args.length ≤ 134) : callω AmEnv.env 8 args h = afterBody AmEnv.env [.tmp 6] (evω AmEnv.env c8 (Tr.enter 134 args) h) := call_eq (E := AmEnv.env) (f := 8) (c := c8) (n := 134) (rs := [.tmp 6]) fn8 hn
theorem call9 {args : List AV} (h : Heap) (hn : args.length ≤ 177) : callω AmEnv.env 9 args h = afterBody AmEnv.env [.tmp 0] (evω AmEnv.env c9 (Tr.enter 177 args) h) := call_eq (E := AmEnv.env) (f := 9) (c := c9) (n := 177) (rs := [.tmp 0]) fn9 hn
theorem call10 {args : List AV} (h : Heap) (hn : args.length ≤ 4) : callω AmEnv.env 10 args h = afterBody AmEnv.env [.tmp 2] (evω AmEnv.env c10 (Tr.enter 4 args) h) := call_eq (E := AmEnv.env) (f := 10) (c := c10) (n := 4) (rs := [.tmp 2]) fn10 hn
theorem call11 {args : List AV} (h : Heap) (hn : args.length ≤ 22) : callω AmEnv.env 11 args h = afterBody AmEnv.env [.tmp 8] (evω AmEnv.env c11 (Tr.enter 22 args) h) := call_eq (E := AmEnv.env) (f := 11) (c := c11) (n := 22) (rs := [.tmp 8]) fn11 hn
theorem call12 {args : List AV} (h : Heap) (hn : args.length ≤ 19) : callω AmEnv.env 12 args h = afterBody AmEnv.env [.tmp 4] (evω AmEnv.env c12 (Tr.enter 19 args) h) := call_eq (E := AmEnv.env) (f := 12) (c := c12) (n := 19) (rs := [.tmp 4]) fn12 hn
theorem call13 {args : List AV} (h : Heap) (hn : args.length ≤ 65) : callω AmEnv.env 13 args h = afterBody AmEnv.env [.tmp 0] (evω AmEnv.env c13 (Tr.enter 65 args) h) := call_eq (E := AmEnv.env) (f := 13) (c := c13) (n := 65) (rs := [.tmp 0]) fn13 hn
theorem call14 {args : List AV} (h : Heap) (hn : args.length ≤ 29) : callω AmEnv.env 14 args h = afterBody AmEnv.env [.tmp 8, .tmp 9] (evω AmEnv.env c14 (Tr.enter 29 args) h) := call_eq (E := AmEnv.env) (f := 14) (c := c14) (n := 29) (rs := [.tmp 8, .tmp 9]) fn14 hn
theorem call15 {args : List AV} (h : Heap) (hn : args.length ≤ 107) : callω AmEnv.env 15 args h = afterBody AmEnv.env [.tmp 8, .tmp 9] (evω AmEnv.env c15 (Tr.enter 107 args) h) := call_eq (E := AmEnv.env) (f := 15) (c := c15) (n := 107) (rs := [.tmp 8, .tmp 9]) fn15 hn
theorem call16 {args : List AV} (h : Heap) (hn : args.length ≤ 7) : callω AmEnv.env 16 args h = afterBody AmEnv.env [.tmp 2] (evω AmEnv.env c16 (Tr.enter 7 args) h) := call_eq (E := AmEnv.env) (f := 16) (c := c16) (n := 7) (rs := [.tmp 2]) fn16 hn
theorem call17 {args : List AV} (h : Heap) (hn : args.length ≤ 10) : callω AmEnv.env 17 args h = afterBody AmEnv.env [.tmp 2] (evω AmEnv.env c17 (Tr.enter 10 args) h) := call_eq (E := AmEnv.env) (f := 17) (c := c17) (n := 10) (rs := [.tmp 2]) fn17 hn
theorem call18 {args : List AV} (h : Heap) (hn : args.length ≤ 39) : callω AmEnv.env 18 args h = afterBody AmEnv.env [.tmp 4] (evω AmEnv.env c18 (Tr.enter 39 args) h) := call_eq (E := AmEnv.env) (f := 18) (c := c18) (n := 39) (rs := [.tmp 4]) fn18 hn
theorem call19 {args : List AV} (h : Heap) (hn : args.length ≤ 16) : callω AmEnv.env 19 args h = afterBody AmEnv.env [.tmp 4] (evω AmEnv.env c19 (Tr.enter 16 args) h) := call_eq (E := AmEnv.env) (f := 19) (c := c19) (n := 16) (rs := [.tmp 4]) fn19 hn
theorem call20 {args : List AV} (h : Heap) (hn : args.length ≤ 2) : callω AmEnv.env 20 args h = afterBody AmEnv.env [.tmp 0] (evω AmEnv.env c20 (Tr.enter 2 args) h) := call_eq (E := AmEnv.env) (f := 20) (c := c20) (n := 2) (rs := [.tmp 0]) fn20 hn
theorem call21 {args : List AV} (h : Heap) (hn : args.length ≤ 34) : callω AmEnv.env 21 args h = afterBody AmEnv.env [.tmp 8, .tmp 9] (evω AmEnv.env c21 (Tr.enter 34 args) h) := call_eq (E := AmEnv.env) (f := 21) (c := c21) (n := 34) (rs := [.tmp 8, .tmp 9]) fn21 hn
theorem call22 {args : List AV} (h : Heap) (hn : args.length ≤ 32) : callω AmEnv.env 22 args h = afterBody AmEnv.env [.tmp 8, .tmp 9] (evω AmEnv.env c22 (Tr.enter 32 args) h) := call_eq (E := AmEnv.env) (f := 22) (c := c22) (n := 32) (rs := [.tmp 8, .tmp 9]) fn22 hn
theorem call23 {args : List AV} (h : Heap) (hn : args.length ≤ 36) : callω AmEnv.env 23 args h = afterBody AmEnv.env [.tmp 8, .tmp 9] (evω AmEnv.env c23 (Tr.enter 36 args) h) := call_eq (E := AmEnv.env) (f := 23) (c := c23) (n := 36) (rs := [.tmp 8, .tmp 9]) fn23 hn
theorem call24 {args : List AV} (h : Heap) (hn : args.length ≤ 56) : callω AmEnv.env 24 args h = afterBody AmEnv.env [.tmp 8] (evω AmEnv.env c24 (Tr.enter 56 args) h) := call_eq (E := AmEnv.env) (f := 24) (c := c24) (n := 56) (rs := [.tmp 8]) fn24 hn
theorem call25 {args : List AV} (h : Heap) (hn : args.length ≤ 47) : callω AmEnv.env 25 args h = afterBody AmEnv.env [.tmp 8] (evω AmEnv.env c25 (Tr.enter 47 args) h) := call_eq (E := AmEnv.env) (f := 25) (c := c25) (n := 47) (rs := [.tmp 8]) fn25 hn
theorem call26 {args : List AV} (h : Heap) (hn : args.length ≤ 4) : callω AmEnv.env 26 args h = afterBody AmEnv.env [.tmp 2] (evω AmEnv.env c26 (Tr.enter 4 args) h) := call_eq (E := AmEnv.env) (f := 26) (c := c26) (n := 4) (rs := [.tmp 2]) fn26 hn
theorem call27 {args : List AV} (h : Heap) (hn : args.length ≤ 40) : callω AmEnv.env 27 args h = afterBody AmEnv.env [.tmp 6, .tmp 7] (evω AmEnv.env c27 (Tr.enter 40 args) h) := call_eq (E := AmEnv.env) (f := 27) (c := c27) (n := 40) (rs := [.tmp 6, .tmp 7]) fn27 hn
theorem call28 {args : List AV} (h : Heap) (hn : args.length ≤ 93) : callω AmEnv.env 28 args h = afterBody AmEnv.env [.tmp 8] (evω AmEnv.env c28 (Tr.enter 93 args) h) := call_eq (E := AmEnv.env) (f := 28) (c := c28) (n := 93) (rs := [.tmp 8]) fn28 hn
theorem call29 {args : List AV} (h : Heap) (hn : args.length ≤ 40) : callω AmEnv.env 29 args h = afterBody AmEnv.env [.tmp 6, .tmp 7] (evω AmEnv.env c29 (Tr.enter 40 args) h) := call_eq (E := AmEnv.env) (f := 29) (c := c29) (n := 40) (rs := [.tmp 6, .tmp 7]) fn29 hn
theorem call30 {args : List AV} (h : Heap) (hn : args.length ≤ 93) : callω AmEnv.env 30 args h = afterBody AmEnv.env [.tmp 8] (evω AmEnv.env c30 (Tr.enter 93 args) h) := call_eq (E := AmEnv.env) (f := 30) (c := c30) (n := 93) (rs := [.tmp 8]) fn30 hn
theorem call31 {args : List AV} (h : Heap) (hn : args.length ≤ 19) : callω AmEnv.env 31 args h = afterBody AmEnv.env [.tmp 4] (evω AmEnv.env c31 (Tr.enter 19 args) h) := call_eq (E := AmEnv.env) (f := 31) (c := c31) (n := 19) (rs := [.tmp 4]) fn31 hn
theorem call32 {args : List AV} (h : Heap) (hn : args.length ≤ 4) : callω AmEnv.env 32 args h = afterBody AmEnv.env [.tmp 2] (evω AmEnv.env c32 (Tr.enter 4 args) h) := call_eq (E := AmEnv.env) (f := 32) (c := c32) (n := 4) (rs := [.tmp 2]) fn32 hn
theorem call33 {args : List AV} (h : Heap) (hn : args.length ≤ 4) : callω AmEnv.env 33 args h = afterBody AmEnv.env [.tmp 2] (evω AmEnv.env c33 (Tr.enter 4 args) h) := call_eq (E := AmEnv.env) (f := 33) (c := c33) (n := 4) (rs := [.tmp 2]) fn33 hn
end
end Go.Proofs.Word
