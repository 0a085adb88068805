/- The code of this program's functions, as the abstract machine goes over it. Conditions: none. -/
import Derived.Test.YtcipkemddanppaaGreatAmSix
set_option maxRecDepth 100000
namespace Go.Proofs.AmEnv
open Go Go.AM
noncomputable def c3 : XC :=
 (.seq
 (.reg false [
 ⟨some 0, .assign (.const (.bool false)), none, false, [], false⟩])
 (.seq
 (.reg false [
 ⟨some 5, .call ⟨.value (.func 5), #[.const (.int .i64 1), .const (.string ⟨#[43]⟩), .const (.int .i64 1), .const (.int .i64 2)], #[3, 9, 3, 3]⟩, none, false, [], false⟩,
 ⟨some 6, .call ⟨.value (.func 5), #[.const (.int .i64 0), .const (.string ⟨#[43]⟩), .const (.int .i64 1), .const (.int .i64 2)], #[3, 9, 3, 3]⟩, none, false, [], false⟩,
 ⟨some 7, .call ⟨.value (.func 5), #[.const (.int .i64 0), .const (.string ⟨#[43]⟩), .const (.int .i64 1), .const (.int .i64 2)], #[3, 9, 3, 3]⟩, none, false, [], false⟩,
 ⟨some 8, .buildSlice 26 3 #[(0, .tmp 5), (1, .tmp 6), (2, .tmp 7)], none, false, [], false⟩,
 ⟨some 9, .call ⟨.value (.func 5), #[.const (.int .i64 3), .const (.string ⟨#[47]⟩), .const (.int .i64 1), .const (.int .i64 2)], #[3, 9, 3, 3]⟩, none, false, [], false⟩,
 ⟨some 10, .call ⟨.value (.func 5), #[.const (.int .i64 0), .const (.string ⟨#[47]⟩), .const (.int .i64 1), .const (.int .i64 2)], #[3, 9, 3, 3]⟩, none, false, [], false⟩,
 ⟨some 11, .buildSlice 26 2 #[(0, .tmp 9), (1, .tmp 10)], none, false, [], false⟩,
 ⟨some 12, .call ⟨.value (.func 5), #[.const (.int .i64 3), .const (.string ⟨#[45]⟩), .const (.int .i64 1), .const (.int .i64 2)], #[3, 9, 3, 3]⟩, none, false, [], false⟩,
 ⟨some 13, .call ⟨.value (.func 5), #[.const (.int .i64 0), .const (.string ⟨#[45]⟩), .const (.int .i64 2), .const (.int .i64 1)], #[3, 9, 3, 3]⟩, none, false, [], false⟩,
 ⟨some 14, .buildSlice 26 2 #[(0, .tmp 12), (1, .tmp 13)], none, false, [], false⟩,
 ⟨some 15, .call ⟨.value (.func 6), #[.const (.int .i64 1), .const (.int .i64 5)], #[3, 3]⟩, none, false, [], false⟩,
 ⟨some 16, .call ⟨.value (.func 7), #[.const (.int .i64 2), .const (.int .i64 1)], #[3, 3]⟩, none, false, [], false⟩,
 ⟨some 17, .call ⟨.value (.func 6), #[.const (.int .i64 1), .const (.int .i64 6)], #[3, 3]⟩, none, false, [], false⟩,
 ⟨some 18, .call ⟨.value (.func 6), #[.const (.int .i64 3), .const (.int .i64 7)], #[3, 3]⟩, none, false, [], false⟩,
 ⟨some 19, .buildSlice 26 4 #[(0, .tmp 15), (1, .tmp 16), (2, .tmp 17), (3, .tmp 18)], none, false, [], false⟩,
 ⟨some 20, .buildSlice 28 4 #[(0, .tmp 8), (1, .tmp 11), (2, .tmp 14), (3, .tmp 19)], none, false, [], false⟩,
 ⟨some 1, .assign (.tmp 20), none, false, [], false⟩])
 (.seq
 (.seq
 (.reg false [
 ⟨some 2, .assign (.const (.int .i64 0)), none, false, [], false⟩])
 (.block 0
 (.loop
 (.seq
 (.seq
 (.reg false [
 ⟨some 21, .move (.tmp 2), none, false, [], false⟩,
 ⟨some 22, .move (.tmp 1), none, false, [], false⟩,
 ⟨some 23, .call ⟨.builtin .len, #[.tmp 22], #[28]⟩, none, false, [], false⟩,
 ⟨some 24, .binOp .lss 3 (.tmp 21) (.tmp 23) 3, none, false, [], false⟩])
 (.cond (.tmp 24)
 .skip
 (.exit 0)))
 (.seq
 (.block 1
 (.seq
 (.reg false [
 ⟨some 27, .move (.tmp 1), none, false, [], false⟩,
 ⟨some 28, .move (.tmp 2), none, false, [], false⟩,
 ⟨some 29, .indexAddr 28 (.tmp 27) (.tmp 28), none, false, [], false⟩,
 ⟨some 30, .load 26 (.tmp 29), none, false, [], false⟩,
 ⟨some 31, .call ⟨.value (.func 8), #[.tmp 30], #[26]⟩, none, false, [], false⟩,
 ⟨some 32, .buildSlice 33 1 #[(0, .tmp 31)], none, false, [], false⟩,
 ⟨some 33, .build 36 #[(1, .tmp 32)], none, false, [], false⟩,
 ⟨some 3, .alloc 36, none, false, [], false⟩,
 ⟨none, .store 36 (.tmp 3) (.tmp 33), none, false, [], false⟩])
 (.seq
 (.reg true [
 ⟨some 34, .move (.tmp 1), none, false, [], false⟩,
 ⟨some 35, .move (.tmp 2), none, false, [], false⟩,
 ⟨some 36, .indexAddr 28 (.tmp 34) (.tmp 35), none, false, [], false⟩,
 ⟨some 37, .load 26 (.tmp 36), none, false, [], false⟩,
 ⟨some 38, .move (.tmp 1), none, false, [], false⟩,
 ⟨some 39, .move (.tmp 2), none, false, [], false⟩,
 ⟨some 40, .indexAddr 28 (.tmp 38) (.tmp 39), none, false, [], false⟩,
 ⟨some 41, .load 26 (.tmp 40), none, false, [], false⟩,
 ⟨some 42, .call ⟨.value (.func 9), #[.tmp 37, .tmp 41], #[26, 26]⟩, none, false, [true, true, true, true, true, true, true, true, true, true, true, true, true, true, true, true], false⟩,
 ⟨some 43, .unOp .not 4 (.tmp 42), none, false, [], false⟩,
 ⟨some 44, .move (.tmp 43), none, false, [], false⟩,
 ⟨some 45, .load 36 (.tmp 3), some (some 44, false), false, [], false⟩,
 ⟨some 46, .call ⟨.value (.func 10), #[.tmp 45], #[36]⟩, some (some 44, false), false, [true, true, true, true, true, true, true, true, true, true, true, true], false⟩,
 ⟨some 47, .unOp .not 4 (.tmp 46), some (some 44, false), false, [], false⟩,
 ⟨some 48, .pick (.tmp 44) (.const (.bool true)) (.tmp 47), none, false, [], false⟩,
 ⟨some 49, .move (.tmp 48), none, false, [], false⟩,
 ⟨some 50, .load 36 (.tmp 3), some (some 49, false), false, [], false⟩,
 ⟨some 51, .call ⟨.value (.func 11), #[.tmp 50, .const (.slice none 0 0), .const (.int .i64 50)], #[36, 22, 3]⟩, some (some 49, false), false, [true, true, true, true, true, true, true], false⟩,
 ⟨some 52, .unOp .not 4 (.tmp 51), some (some 49, false), false, [], false⟩,
 ⟨some 53, .pick (.tmp 49) (.const (.bool true)) (.tmp 52), none, false, [], false⟩,
 ⟨some 54, .move (.tmp 53), none, false, [], false⟩,
 ⟨some 55, .load 36 (.tmp 3), some (some 54, false), false, [], false⟩,
 ⟨some 56, .call ⟨.value (.func 12), #[.tmp 55], #[36]⟩, some (some 54, false), false, [true, true], false⟩,
 ⟨some 57, .unOp .not 4 (.tmp 56), some (some 54, false), false, [], false⟩,
 ⟨some 58, .pick (.tmp 54) (.const (.bool true)) (.tmp 57), none, false, [], false⟩])
 (.cond (.tmp 58)
 (.seq
 (.reg false [
 ⟨some 0, .assign (.const (.bool false)), none, false, [], false⟩])
 .ret)
 .skip))))
 (.reg false [
 ⟨some 25, .move (.tmp 2), none, false, [], false⟩,
 ⟨some 26, .binOp .add 3 (.tmp 25) (.const (.int .i64 1)) 3, none, false, [], false⟩,
 ⟨some 2, .assign (.tmp 26), none, false, [], false⟩]))))))
 (.seq
 (.reg false [
 ⟨some 59, .call ⟨.value (.func 6), #[.const (.int .i64 2), .const (.int .i64 4)], #[3, 3]⟩, none, false, [], false⟩,
 ⟨some 60, .call ⟨.value (.func 6), #[.const (.int .i64 1), .const (.int .i64 4)], #[3, 3]⟩, none, false, [], false⟩,
 ⟨some 61, .call ⟨.value (.func 6), #[.const (.int .i64 0), .const (.int .i64 4)], #[3, 3]⟩, none, false, [], false⟩,
 ⟨some 62, .call ⟨.value (.func 6), #[.const (.int .i64 2), .const (.int .i64 9)], #[3, 3]⟩, none, false, [], false⟩,
 ⟨some 63, .call ⟨.value (.func 6), #[.const (.int .i64 3), .const (.int .i64 4)], #[3, 3]⟩, none, false, [], false⟩,
 ⟨some 64, .buildSlice 26 5 #[(0, .tmp 59), (1, .tmp 60), (2, .tmp 61), (3, .tmp 62), (4, .tmp 63)], none, false, [], false⟩,
 ⟨some 4, .assign (.tmp 64), none, false, [], false⟩])
 (.seq
 (.seq
 (.reg false [
 ⟨some 65, .call ⟨.value (.func 5), #[.const (.int .i64 0), .const (.string ⟨#[43]⟩), .const (.int .i64 0), .const (.int .i64 1)], #[3, 9, 3, 3]⟩, none, false, [], false⟩,
 ⟨some 66, .call ⟨.value (.func 5), #[.const (.int .i64 2), .const (.string ⟨#[43]⟩), .const (.int .i64 0), .const (.int .i64 1)], #[3, 9, 3, 3]⟩, none, false, [], false⟩,
 ⟨some 67, .call ⟨.value (.func 5), #[.const (.int .i64 0), .const (.string ⟨#[43]⟩), .const (.int .i64 0), .const (.int .i64 1)], #[3, 9, 3, 3]⟩, none, false, [], false⟩,
 ⟨some 68, .buildSlice 26 3 #[(0, .tmp 65), (1, .tmp 66), (2, .tmp 67)], none, false, [], false⟩,
 ⟨some 69, .call ⟨.value (.func 5), #[.const (.int .i64 0), .const (.string ⟨#[43]⟩), .const (.int .i64 0), .const (.int .i64 1)], #[3, 9, 3, 3]⟩, none, false, [], false⟩,
 ⟨some 70, .call ⟨.value (.func 5), #[.const (.int .i64 2), .const (.string ⟨#[43]⟩), .const (.int .i64 0), .const (.int .i64 1)], #[3, 9, 3, 3]⟩, none, false, [], false⟩,
 ⟨some 71, .call ⟨.value (.func 7), #[.const (.int .i64 0), .const (.int .i64 2)], #[3, 3]⟩, none, false, [], false⟩,
 ⟨some 72, .buildSlice 26 3 #[(0, .tmp 69), (1, .tmp 70), (2, .tmp 71)], none, false, [], false⟩,
 ⟨some 73, .call ⟨.value (.func 9), #[.tmp 68, .tmp 72], #[26, 26]⟩, none, false, [], false⟩,
 ⟨some 74, .unOp .not 4 (.tmp 73), none, false, [], false⟩])
 (.cond (.tmp 74)
 (.seq
 (.reg false [
 ⟨some 0, .assign (.const (.bool false)), none, false, [], false⟩])
 .ret)
 .skip))
 (.seq
 (.reg false [
 ⟨some 75, .move (.tmp 4), none, false, [], false⟩,
 ⟨some 76, .call ⟨.value (.func 6), #[.const (.int .i64 2), .const (.int .i64 4)], #[3, 3]⟩, none, false, [], false⟩,
 ⟨some 77, .call ⟨.value (.func 7), #[.const (.int .i64 1), .const (.int .i64 2)], #[3, 3]⟩, none, false, [], false⟩,
 ⟨some 78, .call ⟨.value (.func 7), #[.const (.int .i64 0), .const (.int .i64 1)], #[3, 3]⟩, none, false, [], false⟩,
 ⟨some 79, .call ⟨.value (.func 6), #[.const (.int .i64 2), .const (.int .i64 9)], #[3, 3]⟩, none, false, [], false⟩,
 ⟨some 80, .call ⟨.value (.func 7), #[.const (.int .i64 3), .const (.int .i64 0)], #[3, 3]⟩, none, false, [], false⟩,
 ⟨some 81, .buildSlice 26 5 #[(0, .tmp 76), (1, .tmp 77), (2, .tmp 78), (3, .tmp 79), (4, .tmp 80)], none, false, [], false⟩,
 ⟨some 82, .call ⟨.value (.func 9), #[.tmp 75, .tmp 81], #[26, 26]⟩, none, false, [], false⟩,
 ⟨some 83, .move (.tmp 82), none, false, [], false⟩,
 ⟨some 84, .call ⟨.value (.func 13), #[], #[]⟩, some (some 83, true), false, [], false⟩,
 ⟨some 85, .pick (.tmp 83) (.tmp 84) (.const (.bool false)), none, false, [], false⟩,
 ⟨some 0, .assign (.tmp 85), none, false, [], false⟩])
 .ret))))))
noncomputable def fi3 : FI := ⟨c3, 86, [.tmp 0], .plain⟩
noncomputable def c5 : XC :=
 (.seq
 (.reg false [
 ⟨some 8, .alloc 24, none, false, [], false⟩])
 (.seq
 (.reg false [
 ⟨some 9, .move (.tmp 1), none, false, [], false⟩,
 ⟨some 10, .move (.tmp 0), none, false, [], false⟩,
 ⟨some 11, .move (.tmp 2), none, false, [], false⟩,
 ⟨some 12, .move (.tmp 3), none, false, [], false⟩,
 ⟨some 13, .build 24 #[(0, .const (.int .i64 3)), (1, .const (.int .i64 1)), (6, .tmp 9), (2, .tmp 10), (3, .tmp 11), (4, .tmp 12)], none, false, [], false⟩,
 ⟨none, .store 24 (.tmp 8) (.tmp 13), none, false, [], false⟩])
 .ret))
noncomputable def fi5 : FI := ⟨c5, 14, [.cell 8 24], .plain⟩
noncomputable def c6 : XC :=
 (.seq
 (.reg false [
 ⟨some 4, .alloc 24, none, false, [], false⟩])
 (.seq
 (.reg false [
 ⟨some 5, .move (.tmp 0), none, false, [], false⟩,
 ⟨some 6, .move (.tmp 1), none, false, [], false⟩,
 ⟨some 7, .build 24 #[(0, .const (.int .i64 1)), (2, .tmp 5), (5, .tmp 6)], none, false, [], false⟩,
 ⟨none, .store 24 (.tmp 4) (.tmp 7), none, false, [], false⟩])
 .ret))
noncomputable def fi6 : FI := ⟨c6, 8, [.cell 4 24], .plain⟩
noncomputable def c7 : XC :=
 (.seq
 (.reg false [
 ⟨some 4, .alloc 24, none, false, [], false⟩])
 (.seq
 (.reg false [
 ⟨some 5, .move (.tmp 0), none, false, [], false⟩,
 ⟨some 6, .move (.tmp 1), none, false, [], false⟩,
 ⟨some 7, .build 24 #[(0, .const (.int .i64 2)), (2, .tmp 5), (3, .tmp 6)], none, false, [], false⟩,
 ⟨none, .store 24 (.tmp 4) (.tmp 7), none, false, [], false⟩])
 .ret))
noncomputable def fi7 : FI := ⟨c7, 8, [.cell 4 24], .plain⟩
noncomputable def c8 : XC :=
 (.seq
 (.reg false [
 ⟨some 2, .alloc 31, none, false, [], false⟩])
 (.seq
 (.reg false [
 ⟨some 3, .buildSlice 22 4 #[(0, .const (.int .i64 1)), (1, .const (.int .i64 1)), (2, .const (.int .i64 1)), (3, .const (.int .i64 1))], none, false, [], false⟩,
 ⟨some 4, .move (.tmp 0), none, false, [], false⟩,
 ⟨some 5, .build 44 #[(0, .const (.int .i64 3))], none, false, [], false⟩,
 ⟨some 6, .build 46 #[(0, .tmp 4), (1, .tmp 5)], none, false, [], false⟩,
 ⟨some 7, .buildSlice 29 1 #[(0, .tmp 6)], none, false, [], false⟩,
 ⟨some 8, .build 31 #[(0, .const (.string ⟨#[109, 97, 105, 110]⟩)), (1, .const (.int .i64 1)), (3, .tmp 3), (4, .tmp 7)], none, false, [], false⟩,
 ⟨none, .store 31 (.tmp 2) (.tmp 8), none, false, [], false⟩])
 .ret))
noncomputable def fi8 : FI := ⟨c8, 9, [.cell 2 31], .plain⟩
noncomputable def c9 : XC :=
 (.seq
 (.reg false [
 ⟨some 4, .assign (.const (.bool false)), none, false, [], false⟩])
 (.seq
 (.reg false [
 ⟨some 5, .move (.tmp 0), none, false, [], false⟩,
 ⟨some 6, .call ⟨.value (.func 8), #[.tmp 5], #[26]⟩, none, false, [], false⟩,
 ⟨some 7, .call ⟨.value (.func 24), #[.tmp 6], #[31]⟩, none, false, [], false⟩,
 ⟨some 8, .move (.tmp 1), none, false, [], false⟩,
 ⟨some 9, .call ⟨.value (.func 8), #[.tmp 8], #[26]⟩, none, false, [], false⟩,
 ⟨some 10, .call ⟨.value (.func 21), #[.tmp 7, .tmp 9], #[31, 31]⟩, none, false, [], false⟩,
 ⟨some 4, .assign (.tmp 10), none, false, [], false⟩])
 .ret))
noncomputable def fi9 : FI := ⟨c9, 11, [.tmp 4], .plain⟩
noncomputable def c10 : XC :=
 (.seq
 (.reg false [
 ⟨some 1, .box 36 (.tmp 0), none, false, [], false⟩,
 ⟨some 2, .assign (.const (.bool false)), none, false, [], false⟩])
 (.seq
 (.seq
 (.reg false [
 ⟨some 8, .load 36 (.tmp 1), none, false, [], false⟩,
 ⟨some 9, .call ⟨.value (.func 25), #[.tmp 8], #[36]⟩, none, false, [], false⟩])
 (.cond (.tmp 9)
 (.seq
 (.reg false [
 ⟨some 10, .call ⟨.value (.func 13), #[], #[]⟩, none, false, [], false⟩,
 ⟨some 2, .assign (.tmp 10), none, false, [], false⟩])
 .ret)
 .skip))
 (.seq
 (.seq
 (.reg false [
 ⟨some 3, .assign (.const (.int .i64 0)), none, false, [], false⟩])
 (.block 0
 (.loop
 (.seq
 (.seq
 (.reg false [
 ⟨some 11, .move (.tmp 3), none, false, [], false⟩,
 ⟨some 12, .fieldAddr 36 (.tmp 1) 1, none, false, [], false⟩,
 ⟨some 13, .load 33 (.tmp 12), none, false, [], false⟩,
 ⟨some 14, .call ⟨.builtin .len, #[.tmp 13], #[33]⟩, none, false, [], false⟩,
 ⟨some 15, .binOp .lss 3 (.tmp 11) (.tmp 14) 3, none, false, [], false⟩])
 (.cond (.tmp 15)
 .skip
 (.exit 0)))
 (.seq
 (.block 1
 (.seq
 (.reg false [
 ⟨some 18, .fieldAddr 36 (.tmp 1) 1, none, false, [], false⟩,
 ⟨some 19, .load 33 (.tmp 18), none, false, [], false⟩,
 ⟨some 20, .move (.tmp 3), none, false, [], false⟩,
 ⟨some 21, .indexAddr 33 (.tmp 19) (.tmp 20), none, false, [], false⟩,
 ⟨some 22, .load 31 (.tmp 21), none, false, [], false⟩,
 ⟨some 23, .call ⟨.value (.func 26), #[.tmp 22], #[31]⟩, none, false, [], false⟩,
 ⟨some 4, .alloc 31, none, false, [], false⟩,
 ⟨none, .store 31 (.tmp 4) (.tmp 23), none, false, [], false⟩])
 (.seq
 (.reg false [
 ⟨some 24, .load 31 (.tmp 4), none, false, [], false⟩,
 ⟨some 25, .call ⟨.value (.func 24), #[.tmp 24], #[31]⟩, none, false, [], false⟩,
 ⟨some 5, .alloc 31, none, false, [], false⟩,
 ⟨none, .store 31 (.tmp 5) (.tmp 25), none, false, [], false⟩])
 (.seq
 (.reg false [
 ⟨some 26, .load 31 (.tmp 4), none, false, [], false⟩,
 ⟨some 27, .call ⟨.value (.func 24), #[.tmp 26], #[31]⟩, none, false, [], false⟩,
 ⟨some 6, .alloc 31, none, false, [], false⟩,
 ⟨none, .store 31 (.tmp 6) (.tmp 27), none, false, [], false⟩])
 (.seq
 (.reg false [
 ⟨some 28, .fieldAddr 36 (.tmp 1) 1, none, false, [], false⟩,
 ⟨some 29, .load 33 (.tmp 28), none, false, [], false⟩,
 ⟨some 30, .move (.tmp 3), none, false, [], false⟩,
 ⟨some 31, .indexAddr 33 (.tmp 29) (.tmp 30), none, false, [], false⟩,
 ⟨some 32, .load 31 (.tmp 31), none, false, [], false⟩,
 ⟨some 33, .call ⟨.value (.func 27), #[.tmp 32], #[31]⟩, none, false, [], false⟩,
 ⟨some 7, .alloc 31, none, false, [], false⟩,
 ⟨none, .store 31 (.tmp 7) (.tmp 33), none, false, [], false⟩])
 (.seq
 (.seq
 (.reg true [
 ⟨some 34, .load 31 (.tmp 5), none, false, [], false⟩,
 ⟨some 35, .load 31 (.tmp 7), none, false, [], false⟩,
 ⟨some 36, .call ⟨.value (.func 21), #[.tmp 34, .tmp 35], #[31, 31]⟩, none, false, [true, true, true, true, true, true, true, true, true, true, true], false⟩,
 ⟨some 37, .unOp .not 4 (.tmp 36), none, false, [], false⟩,
 ⟨some 38, .move (.tmp 37), none, false, [], false⟩,
 ⟨some 39, .load 31 (.tmp 4), some (some 38, false), false, [], false⟩,
 ⟨some 40, .fieldAddr 36 (.tmp 1) 1, some (some 38, false), false, [], false⟩,
 ⟨some 41, .load 33 (.tmp 40), some (some 38, false), false, [], false⟩,
 ⟨some 42, .move (.tmp 3), some (some 38, false), false, [], false⟩,
 ⟨some 43, .indexAddr 33 (.tmp 41) (.tmp 42), some (some 38, false), false, [], false⟩,
 ⟨some 44, .load 31 (.tmp 43), some (some 38, false), false, [], false⟩,
 ⟨some 45, .call ⟨.value (.func 21), #[.tmp 39, .tmp 44], #[31, 31]⟩, some (some 38, false), false, [true, true], false⟩,
 ⟨some 46, .unOp .not 4 (.tmp 45), some (some 38, false), false, [], false⟩,
 ⟨some 47, .pick (.tmp 38) (.const (.bool true)) (.tmp 46), none, false, [], false⟩])
 (.cond (.tmp 47)
 (.seq
 (.reg false [
 ⟨some 2, .assign (.const (.bool false)), none, false, [], false⟩])
 .ret)
 .skip))
 (.seq
 (.reg false [
 ⟨some 48, .load 31 (.tmp 5), none, false, [], false⟩,
 ⟨some 49, .call ⟨.value (.func 28), #[.tmp 48], #[31]⟩, none, false, [], false⟩])
 (.seq
 (.reg true [
 ⟨some 50, .load 31 (.tmp 6), none, false, [], false⟩,
 ⟨some 51, .load 31 (.tmp 7), none, false, [], false⟩,
 ⟨some 52, .call ⟨.value (.func 21), #[.tmp 50, .tmp 51], #[31, 31]⟩, none, false, [true, true, true, true, true, true, true, true, true, true, true], false⟩,
 ⟨some 53, .unOp .not 4 (.tmp 52), none, false, [], false⟩,
 ⟨some 54, .move (.tmp 53), none, false, [], false⟩,
 ⟨some 55, .load 31 (.tmp 4), some (some 54, false), false, [], false⟩,
 ⟨some 56, .fieldAddr 36 (.tmp 1) 1, some (some 54, false), false, [], false⟩,
 ⟨some 57, .load 33 (.tmp 56), some (some 54, false), false, [], false⟩,
 ⟨some 58, .move (.tmp 3), some (some 54, false), false, [], false⟩,
 ⟨some 59, .indexAddr 33 (.tmp 57) (.tmp 58), some (some 54, false), false, [], false⟩,
 ⟨some 60, .load 31 (.tmp 59), some (some 54, false), false, [], false⟩,
 ⟨some 61, .call ⟨.value (.func 21), #[.tmp 55, .tmp 60], #[31, 31]⟩, some (some 54, false), false, [true, true], false⟩,
 ⟨some 62, .unOp .not 4 (.tmp 61), some (some 54, false), false, [], false⟩,
 ⟨some 63, .pick (.tmp 54) (.const (.bool true)) (.tmp 62), none, false, [], false⟩])
 (.cond (.tmp 63)
 (.seq
 (.reg false [
 ⟨some 2, .assign (.const (.bool false)), none, false, [], false⟩])
 .ret)
 .skip)))))))))
 (.reg false [
 ⟨some 16, .move (.tmp 3), none, false, [], false⟩,
 ⟨some 17, .binOp .add 3 (.tmp 16) (.const (.int .i64 1)) 3, none, false, [], false⟩,
 ⟨some 3, .assign (.tmp 17), none, false, [], false⟩]))))))
 (.seq
 (.reg false [
 ⟨some 64, .call ⟨.value (.func 13), #[], #[]⟩, none, false, [], false⟩,
 ⟨some 2, .assign (.tmp 64), none, false, [], false⟩])
 .ret))))
noncomputable def fi10 : FI := ⟨c10, 65, [.tmp 2], .plain⟩
noncomputable def c11 : XC :=
 (.seq
 (.reg false [
 ⟨some 3, .box 36 (.tmp 0), none, false, [], false⟩,
 ⟨some 6, .assign (.const (.bool false)), none, false, [], false⟩])
 (.seq
 (.seq
 (.reg false [
 ⟨some 8, .load 36 (.tmp 3), none, false, [], false⟩,
 ⟨some 9, .call ⟨.value (.func 25), #[.tmp 8], #[36]⟩, none, false, [], false⟩,
 ⟨some 10, .move (.tmp 9), none, false, [], false⟩,
 ⟨some 11, .move (.tmp 1), some (some 10, false), false, [], false⟩,
 ⟨some 12, .call ⟨.builtin .len, #[.tmp 11], #[22]⟩, some (some 10, false), false, [], false⟩,
 ⟨some 13, .binOp .gtr 3 (.tmp 12) (.const (.int .i64 1000)) 3, some (some 10, false), false, [], false⟩,
 ⟨some 14, .pick (.tmp 10) (.const (.bool true)) (.tmp 13), none, false, [], false⟩])
 (.cond (.tmp 14)
 (.seq
 (.reg false [
 ⟨some 15, .call ⟨.value (.func 13), #[], #[]⟩, none, false, [], false⟩,
 ⟨some 6, .assign (.tmp 15), none, false, [], false⟩])
 .ret)
 .skip))
 (.seq
 (.reg false [
 ⟨some 16, .load 36 (.tmp 3), none, false, [], false⟩,
 ⟨some 17, .call ⟨.value (.func 29), #[.tmp 16], #[36]⟩, none, false, [], false⟩,
 ⟨some 7, .alloc 36, none, false, [], false⟩,
 ⟨none, .store 36 (.tmp 7) (.tmp 17), none, false, [], false⟩])
 (.seq
 (.reg false [
 ⟨some 18, .move (.tmp 2), none, false, [], false⟩,
 ⟨some 19, .call ⟨.value (.func 30), #[.tmp 18, .const (.int .i64 3000)], #[3, 3]⟩, none, false, [], false⟩,
 ⟨some 2, .assign (.tmp 19), none, false, [], false⟩])
 (.seq
 (.reg true [
 ⟨some 20, .load 36 (.tmp 7), none, false, [], false⟩,
 ⟨some 21, .call ⟨.value (.func 31), #[.tmp 20], #[36]⟩, none, false, [true, true, true, true, true, true, true, true, true, true, true, true, true, true, true, true], false⟩,
 ⟨some 22, .binOp .eql 57 (.tmp 21) (.const (.int .i64 0)) 57, none, false, [], false⟩,
 ⟨some 23, .move (.tmp 22), none, false, [], false⟩,
 ⟨some 24, .load 36 (.tmp 3), some (some 23, true), false, [], false⟩,
 ⟨some 25, .move (.tmp 1), some (some 23, true), false, [], false⟩,
 ⟨some 26, .move (.tmp 2), some (some 23, true), false, [], false⟩,
 ⟨some 27, .call ⟨.value (.func 33), #[.tmp 24, .tmp 25, .tmp 26], #[36, 22, 3]⟩, some (some 23, true), true, [false, false, false, true, true, true, true, true, true, true], false⟩,
 ⟨some 28, .load 36 (.tmp 7), some (some 23, true), false, [], true⟩,
 ⟨some 29, .move (.tmp 1), some (some 23, true), false, [], false⟩,
 ⟨some 30, .move (.tmp 2), some (some 23, true), false, [], false⟩,
 ⟨some 31, .call ⟨.value (.func 33), #[.tmp 28, .tmp 29, .tmp 30], #[36, 22, 3]⟩, some (some 23, true), false, [true, true, true, true, true, true], false⟩,
 ⟨some 32, .call ⟨.value (.func 32), #[.tmp 27, .tmp 31], #[61, 61]⟩, some (some 23, true), false, [true, true, true, true, true], false⟩,
 ⟨some 33, .pick (.tmp 23) (.tmp 32) (.const (.bool false)), none, false, [], false⟩,
 ⟨some 34, .move (.tmp 33), none, false, [], false⟩,
 ⟨some 35, .call ⟨.value (.func 13), #[], #[]⟩, some (some 34, true), false, [true, true], false⟩,
 ⟨some 36, .pick (.tmp 34) (.tmp 35) (.const (.bool false)), none, false, [], false⟩,
 ⟨some 6, .assign (.tmp 36), none, false, [], false⟩])
 .ret)))))
noncomputable def fi11 : FI := ⟨c11, 37, [.tmp 6], .plain⟩
noncomputable def c12 : XC :=
 (.seq
 (.reg false [
 ⟨some 1, .box 36 (.tmp 0), none, false, [], false⟩,
 ⟨some 2, .assign (.const (.bool false)), none, false, [], false⟩])
 (.seq
 (.seq
 (.reg false [
 ⟨some 5, .load 36 (.tmp 1), none, false, [], false⟩,
 ⟨some 6, .call ⟨.value (.func 25), #[.tmp 5], #[36]⟩, none, false, [], false⟩])
 (.cond (.tmp 6)
 (.seq
 (.reg false [
 ⟨some 7, .call ⟨.value (.func 13), #[], #[]⟩, none, false, [], false⟩,
 ⟨some 2, .assign (.tmp 7), none, false, [], false⟩])
 .ret)
 .skip))
 (.seq
 (.reg false [
 ⟨some 8, .load 36 (.tmp 1), none, false, [], false⟩,
 ⟨some 9, .call ⟨.value (.func 29), #[.tmp 8], #[36]⟩, none, false, [], false⟩,
 ⟨some 3, .alloc 36, none, false, [], false⟩,
 ⟨none, .store 36 (.tmp 3) (.tmp 9), none, false, [], false⟩])
 (.seq
 (.reg false [
 ⟨some 10, .load 36 (.tmp 3), none, false, [], false⟩,
 ⟨some 11, .call ⟨.value (.func 29), #[.tmp 10], #[36]⟩, none, false, [], false⟩,
 ⟨some 4, .alloc 36, none, false, [], false⟩,
 ⟨none, .store 36 (.tmp 4) (.tmp 11), none, false, [], false⟩])
 (.seq
 (.reg false [
 ⟨some 12, .load 36 (.tmp 1), none, false, [], false⟩,
 ⟨some 13, .load 36 (.tmp 3), none, false, [], false⟩,
 ⟨some 14, .call ⟨.value (.func 34), #[.tmp 12, .tmp 13], #[36, 36]⟩, none, false, [], false⟩,
 ⟨some 15, .move (.tmp 14), none, false, [], false⟩,
 ⟨some 16, .load 36 (.tmp 3), some (some 15, true), false, [], false⟩,
 ⟨some 17, .load 36 (.tmp 4), some (some 15, true), false, [], false⟩,
 ⟨some 18, .call ⟨.value (.func 34), #[.tmp 16, .tmp 17], #[36, 36]⟩, some (some 15, true), false, [], false⟩,
 ⟨some 19, .pick (.tmp 15) (.tmp 18) (.const (.bool false)), none, false, [], false⟩,
 ⟨some 20, .move (.tmp 19), none, false, [], false⟩,
 ⟨some 21, .call ⟨.value (.func 13), #[], #[]⟩, some (some 20, true), false, [], false⟩,
 ⟨some 22, .pick (.tmp 20) (.tmp 21) (.const (.bool false)), none, false, [], false⟩,
 ⟨some 2, .assign (.tmp 22), none, false, [], false⟩])
 .ret)))))
noncomputable def fi12 : FI := ⟨c12, 23, [.tmp 2], .plain⟩
noncomputable def c13 : XC :=
 (.seq
 (.reg false [
 ⟨some 0, .assign (.const (.bool false)), none, false, [], false⟩])
 (.seq
 (.reg false [
 ⟨some 2, .call ⟨.value (.func 5), #[.const (.int .i64 3), .const (.string ⟨#[43]⟩), .const (.int .i64 1), .const (.int .i64 2)], #[3, 9, 3, 3]⟩, none, false, [], false⟩,
 ⟨some 3, .call ⟨.value (.func 6), #[.const (.int .i64 1), .const (.int .i64 0)], #[3, 3]⟩, none, false, [], false⟩,
 ⟨some 4, .call ⟨.value (.func 5), #[.const (.int .i64 0), .const (.string ⟨#[43]⟩), .const (.int .i64 1), .const (.int .i64 2)], #[3, 9, 3, 3]⟩, none, false, [], false⟩,
 ⟨some 5, .buildSlice 26 3 #[(0, .tmp 2), (1, .tmp 3), (2, .tmp 4)], none, false, [], false⟩,
 ⟨some 1, .assign (.tmp 5), none, false, [], false⟩])
 (.seq
 (.reg false [
 ⟨some 6, .call ⟨.value (.func 6), #[.const (.int .i64 1), .const (.int .i64 5)], #[3, 3]⟩, none, false, [], false⟩,
 ⟨some 7, .call ⟨.value (.func 6), #[.const (.int .i64 2), .const (.int .i64 5)], #[3, 3]⟩, none, false, [], false⟩,
 ⟨some 8, .call ⟨.value (.func 5), #[.const (.int .i64 3), .const (.string ⟨#[43]⟩), .const (.int .i64 1), .const (.int .i64 2)], #[3, 9, 3, 3]⟩, none, false, [], false⟩,
 ⟨some 9, .call ⟨.value (.func 5), #[.const (.int .i64 0), .const (.string ⟨#[43]⟩), .const (.int .i64 1), .const (.int .i64 2)], #[3, 9, 3, 3]⟩, none, false, [], false⟩,
 ⟨some 10, .buildSlice 26 4 #[(0, .tmp 6), (1, .tmp 7), (2, .tmp 8), (3, .tmp 9)], none, false, [], false⟩,
 ⟨some 11, .call ⟨.value (.func 6), #[.const (.int .i64 1), .const (.int .i64 5)], #[3, 3]⟩, none, false, [], false⟩,
 ⟨some 12, .call ⟨.value (.func 7), #[.const (.int .i64 2), .const (.int .i64 1)], #[3, 3]⟩, none, false, [], false⟩,
 ⟨some 13, .call ⟨.value (.func 5), #[.const (.int .i64 3), .const (.string ⟨#[43]⟩), .const (.int .i64 1), .const (.int .i64 2)], #[3, 9, 3, 3]⟩, none, false, [], false⟩,
 ⟨some 14, .call ⟨.value (.func 7), #[.const (.int .i64 0), .const (.int .i64 3)], #[3, 3]⟩, none, false, [], false⟩,
 ⟨some 15, .buildSlice 26 4 #[(0, .tmp 11), (1, .tmp 12), (2, .tmp 13), (3, .tmp 14)], none, false, [], false⟩,
 ⟨some 16, .call ⟨.value (.func 9), #[.tmp 10, .tmp 15], #[26, 26]⟩, none, false, [], false⟩,
 ⟨some 17, .move (.tmp 16), none, false, [], false⟩,
 ⟨some 18, .move (.tmp 1), some (some 17, true), false, [], false⟩,
 ⟨some 19, .move (.tmp 1), some (some 17, true), false, [], false⟩,
 ⟨some 20, .call ⟨.value (.func 9), #[.tmp 18, .tmp 19], #[26, 26]⟩, some (some 17, true), false, [], false⟩,
 ⟨some 21, .pick (.tmp 17) (.tmp 20) (.const (.bool false)), none, false, [], false⟩,
 ⟨some 0, .assign (.tmp 21), none, false, [], false⟩])
 .ret)))
noncomputable def fi13 : FI := ⟨c13, 22, [.tmp 0], .plain⟩
noncomputable def c20 : XC :=
 (.seq
 (.reg false [
 ⟨some 4, .assign (.const (.bool false)), none, false, [], false⟩])
 (.seq
 (.seq
 (.reg false [
 ⟨some 6, .move (.tmp 0), none, false, [], false⟩,
 ⟨some 7, .call ⟨.builtin .len, #[.tmp 6], #[22]⟩, none, false, [], false⟩,
 ⟨some 8, .move (.tmp 1), none, false, [], false⟩,
 ⟨some 9, .call ⟨.builtin .len, #[.tmp 8], #[22]⟩, none, false, [], false⟩,
 ⟨some 10, .binOp .neq 3 (.tmp 7) (.tmp 9) 3, none, false, [], false⟩])
 (.cond (.tmp 10)
 (.seq
 (.reg false [
 ⟨some 4, .assign (.const (.bool false)), none, false, [], false⟩])
 .ret)
 .skip))
 (.seq
 (.seq
 (.reg false [
 ⟨some 5, .assign (.const (.int .i64 0)), none, false, [], false⟩])
 (.block 0
 (.loop
 (.seq
 (.seq
 (.reg false [
 ⟨some 11, .move (.tmp 5), none, false, [], false⟩,
 ⟨some 12, .move (.tmp 0), none, false, [], false⟩,
 ⟨some 13, .call ⟨.builtin .len, #[.tmp 12], #[22]⟩, none, false, [], false⟩,
 ⟨some 14, .binOp .lss 3 (.tmp 11) (.tmp 13) 3, none, false, [], false⟩])
 (.cond (.tmp 14)
 .skip
 (.exit 0)))
 (.seq
 (.block 1
 (.seq
 (.reg true [
 ⟨some 17, .move (.tmp 0), none, false, [], false⟩,
 ⟨some 18, .move (.tmp 5), none, false, [], false⟩,
 ⟨some 19, .indexAddr 22 (.tmp 17) (.tmp 18), none, false, [], false⟩,
 ⟨some 20, .load 3 (.tmp 19), none, false, [], false⟩,
 ⟨some 21, .move (.tmp 1), none, false, [], false⟩,
 ⟨some 22, .move (.tmp 5), none, false, [], false⟩,
 ⟨some 23, .indexAddr 22 (.tmp 21) (.tmp 22), none, false, [], false⟩,
 ⟨some 24, .load 3 (.tmp 23), none, false, [], false⟩,
 ⟨some 25, .binOp .eql 3 (.tmp 20) (.tmp 24) 3, none, false, [], false⟩,
 ⟨some 26, .unOp .not 4 (.tmp 25), none, false, [], false⟩])
 (.cond (.tmp 26)
 (.seq
 (.reg false [
 ⟨some 4, .assign (.const (.bool false)), none, false, [], false⟩])
 .ret)
 .skip)))
 (.reg false [
 ⟨some 15, .move (.tmp 5), none, false, [], false⟩,
 ⟨some 16, .binOp .add 3 (.tmp 15) (.const (.int .i64 1)) 3, none, false, [], false⟩,
 ⟨some 5, .assign (.tmp 16), none, false, [], false⟩]))))))
 (.seq
 (.reg false [
 ⟨some 4, .assign (.const (.bool true)), none, false, [], false⟩])
 .ret))))
noncomputable def fi20 : FI := ⟨c20, 27, [.tmp 4], .plain⟩
noncomputable def c21 : XC :=
 (.seq
 (.reg false [
 ⟨some 2, .box 31 (.tmp 0), none, false, [], false⟩,
 ⟨some 3, .box 31 (.tmp 1), none, false, [], false⟩,
 ⟨some 4, .assign (.const (.bool false)), none, false, [], false⟩])
 (.seq
 (.reg false [
 ⟨some 5, .fieldAddr 31 (.tmp 2) 0, none, false, [], false⟩,
 ⟨some 6, .load 9 (.tmp 5), none, false, [], false⟩,
 ⟨some 7, .fieldAddr 31 (.tmp 3) 0, none, false, [], false⟩,
 ⟨some 8, .load 9 (.tmp 7), none, false, [], false⟩,
 ⟨some 9, .binOp .eql 9 (.tmp 6) (.tmp 8) 9, none, false, [], false⟩,
 ⟨some 10, .move (.tmp 9), none, false, [], false⟩,
 ⟨some 11, .fieldAddr 31 (.tmp 2) 1, some (some 10, true), false, [], false⟩,
 ⟨some 12, .load 3 (.tmp 11), some (some 10, true), false, [], false⟩,
 ⟨some 13, .fieldAddr 31 (.tmp 3) 1, some (some 10, true), false, [], false⟩,
 ⟨some 14, .load 3 (.tmp 13), some (some 10, true), false, [], false⟩,
 ⟨some 15, .binOp .eql 3 (.tmp 12) (.tmp 14) 3, some (some 10, true), false, [], false⟩,
 ⟨some 16, .pick (.tmp 10) (.tmp 15) (.const (.bool false)), none, false, [], false⟩,
 ⟨some 17, .move (.tmp 16), none, false, [], false⟩,
 ⟨some 18, .fieldAddr 31 (.tmp 2) 2, some (some 17, true), false, [], false⟩,
 ⟨some 19, .load 3 (.tmp 18), some (some 17, true), false, [], false⟩,
 ⟨some 20, .fieldAddr 31 (.tmp 3) 2, some (some 17, true), false, [], false⟩,
 ⟨some 21, .load 3 (.tmp 20), some (some 17, true), false, [], false⟩,
 ⟨some 22, .binOp .eql 3 (.tmp 19) (.tmp 21) 3, some (some 17, true), false, [], false⟩,
 ⟨some 23, .pick (.tmp 17) (.tmp 22) (.const (.bool false)), none, false, [], false⟩,
 ⟨some 24, .move (.tmp 23), none, false, [], false⟩,
 ⟨some 25, .fieldAddr 31 (.tmp 2) 3, some (some 24, true), false, [], false⟩,
 ⟨some 26, .load 22 (.tmp 25), some (some 24, true), false, [], false⟩,
 ⟨some 27, .fieldAddr 31 (.tmp 3) 3, some (some 24, true), false, [], false⟩,
 ⟨some 28, .load 22 (.tmp 27), some (some 24, true), false, [], false⟩,
 ⟨some 29, .call ⟨.value (.func 20), #[.tmp 26, .tmp 28], #[22, 22]⟩, some (some 24, true), false, [], false⟩,
 ⟨some 30, .pick (.tmp 24) (.tmp 29) (.const (.bool false)), none, false, [], false⟩,
 ⟨some 31, .move (.tmp 30), none, false, [], false⟩,
 ⟨some 32, .fieldAddr 31 (.tmp 2) 4, some (some 31, true), false, [], false⟩,
 ⟨some 33, .load 29 (.tmp 32), some (some 31, true), false, [], false⟩,
 ⟨some 34, .fieldAddr 31 (.tmp 3) 4, some (some 31, true), false, [], false⟩,
 ⟨some 35, .load 29 (.tmp 34), some (some 31, true), false, [], false⟩,
 ⟨some 36, .call ⟨.value (.func 43), #[.tmp 33, .tmp 35], #[29, 29]⟩, some (some 31, true), false, [], false⟩,
 ⟨some 37, .pick (.tmp 31) (.tmp 36) (.const (.bool false)), none, false, [], false⟩,
 ⟨some 4, .assign (.tmp 37), none, false, [], false⟩])
 .ret))
noncomputable def fi21 : FI := ⟨c21, 38, [.tmp 4], .plain⟩
noncomputable def c24 : XC :=
 (.seq
 (.reg false [
 ⟨some 1, .box 31 (.tmp 0), none, false, [], false⟩,
 ⟨some 2, .alloc 31, none, false, [], false⟩])
 (.seq
 (.reg true [
 ⟨some 6, .fieldAddr 31 (.tmp 1) 3, none, false, [], false⟩,
 ⟨some 7, .load 22 (.tmp 6), none, false, [], false⟩,
 ⟨some 8, .call ⟨.value (.func 48), #[.tmp 7], #[22]⟩, none, true, [false, false, true, true, true, true, true], false⟩,
 ⟨some 9, .fieldAddr 31 (.tmp 1) 4, none, false, [], false⟩,
 ⟨some 10, .load 29 (.tmp 9), none, false, [], true⟩,
 ⟨some 11, .call ⟨.value (.func 49), #[.tmp 10], #[29]⟩, none, false, [false, true, true, true], false⟩,
 ⟨some 12, .fieldAddr 31 (.tmp 1) 3, none, false, [], false⟩,
 ⟨none, .store 22 (.tmp 12) (.tmp 8), none, false, [true, true], false⟩,
 ⟨some 13, .fieldAddr 31 (.tmp 1) 4, none, false, [], false⟩,
 ⟨none, .store 29 (.tmp 13) (.tmp 11), none, false, [], false⟩])
 (.seq
 (.seq
 (.reg false [
 ⟨some 14, .fieldAddr 31 (.tmp 1) 4, none, false, [], false⟩,
 ⟨some 15, .load 29 (.tmp 14), none, false, [], false⟩,
 ⟨some 16, .call ⟨.builtin .len, #[.tmp 15], #[29]⟩, none, false, [], false⟩,
 ⟨some 17, .move (.const (.int .i64 0)), none, false, [], false⟩])
 (.block 0
 (.loop
 (.seq
 (.reg false [
 ⟨some 18, .binOp .lss 3 (.tmp 17) (.tmp 16) 3, none, false, [], false⟩])
 (.seq
 (.cond (.tmp 18)
 .skip
 (.exit 0))
 (.seq
 (.block 1
 (.seq
 (.reg false [
 ⟨some 19, .move (.tmp 17), none, false, [], false⟩,
 ⟨some 3, .assign (.tmp 19), none, false, [], false⟩])
 (.seq
 (.reg false [
 ⟨some 20, .fieldAddr 31 (.tmp 1) 4, none, false, [], false⟩,
 ⟨some 21, .load 29 (.tmp 20), none, false, [], false⟩,
 ⟨some 22, .move (.tmp 3), none, false, [], false⟩,
 ⟨some 23, .indexAddr 29 (.tmp 21) (.tmp 22), none, false, [], false⟩,
 ⟨some 4, .assign (.tmp 23), none, false, [], false⟩])
 (.seq
 (.reg false [
 ⟨some 24, .move (.tmp 4), none, false, [], false⟩,
 ⟨some 25, .move (.tmp 4), none, false, [], false⟩,
 ⟨some 26, .nilCheck (.tmp 25), none, false, [], false⟩,
 ⟨some 27, .fieldAddr 46 (.tmp 26) 0, none, false, [], false⟩,
 ⟨some 28, .load 26 (.tmp 27), none, false, [], false⟩,
 ⟨some 29, .call ⟨.value (.func 50), #[.tmp 28], #[26]⟩, none, false, [], false⟩,
 ⟨some 30, .nilCheck (.tmp 24), none, false, [], false⟩,
 ⟨some 31, .fieldAddr 46 (.tmp 30) 0, none, false, [], false⟩,
 ⟨none, .store 26 (.tmp 31) (.tmp 29), none, false, [], false⟩])
 (.seq
 (.seq
 (.reg false [
 ⟨some 32, .move (.tmp 4), none, false, [], false⟩,
 ⟨some 33, .nilCheck (.tmp 32), none, false, [], false⟩,
 ⟨some 34, .fieldAddr 46 (.tmp 33) 0, none, false, [], false⟩,
 ⟨some 35, .load 26 (.tmp 34), none, false, [], false⟩,
 ⟨some 36, .call ⟨.builtin .len, #[.tmp 35], #[26]⟩, none, false, [], false⟩,
 ⟨some 37, .move (.const (.int .i64 0)), none, false, [], false⟩])
 (.block 2
 (.loop
 (.seq
 (.reg false [
 ⟨some 38, .binOp .lss 3 (.tmp 37) (.tmp 36) 3, none, false, [], false⟩])
 (.seq
 (.cond (.tmp 38)
 .skip
 (.exit 2))
 (.seq
 (.block 3
 (.seq
 (.reg false [
 ⟨some 39, .move (.tmp 37), none, false, [], false⟩,
 ⟨some 5, .assign (.tmp 39), none, false, [], false⟩])
 (.reg true [
 ⟨some 45, .move (.tmp 4), none, false, [], false⟩,
 ⟨some 46, .nilCheck (.tmp 45), none, false, [], false⟩,
 ⟨some 47, .fieldAddr 46 (.tmp 46) 0, none, false, [], false⟩,
 ⟨some 48, .load 26 (.tmp 47), none, false, [], false⟩,
 ⟨some 49, .move (.tmp 5), none, false, [], false⟩,
 ⟨some 50, .indexAddr 26 (.tmp 48) (.tmp 49), none, false, [], false⟩,
 ⟨some 51, .fieldAddr 24 (.tmp 50) 7, none, false, [], false⟩,
 ⟨some 52, .load 22 (.tmp 51), none, false, [], false⟩,
 ⟨some 53, .call ⟨.value (.func 48), #[.tmp 52], #[22]⟩, none, true, [false, false, false, false, false, true, true, true], false⟩,
 ⟨some 40, .move (.tmp 4), none, false, [], false⟩,
 ⟨some 41, .nilCheck (.tmp 40), none, false, [], false⟩,
 ⟨some 42, .fieldAddr 46 (.tmp 41) 0, none, false, [], false⟩,
 ⟨some 43, .load 26 (.tmp 42), none, false, [], true⟩,
 ⟨some 44, .move (.tmp 5), none, false, [], false⟩,
 ⟨some 54, .indexAddr 26 (.tmp 43) (.tmp 44), none, false, [], false⟩,
 ⟨some 55, .fieldAddr 24 (.tmp 54) 7, none, false, [], false⟩,
 ⟨none, .store 22 (.tmp 55) (.tmp 53), none, false, [], false⟩])))
 (.reg false [
 ⟨some 56, .binOp .add 3 (.tmp 37) (.const (.int .i64 1)) 3, none, false, [], false⟩,
 ⟨some 37, .move (.tmp 56), none, false, [], false⟩])))))))
 (.reg true [
 ⟨some 57, .makeMap 86 none, none, true, [false, false, false, false, false, true], false⟩,
 ⟨some 58, .load 31 (.tmp 1), none, false, [], true⟩,
 ⟨some 59, .move (.tmp 4), none, false, [], false⟩,
 ⟨some 60, .nilCheck (.tmp 59), none, false, [], false⟩,
 ⟨some 61, .fieldAddr 46 (.tmp 60) 0, none, false, [], false⟩,
 ⟨some 62, .load 26 (.tmp 61), none, false, [], true⟩,
 ⟨some 63, .call ⟨.value (.func 51), #[.tmp 57, .tmp 58, .tmp 62], #[86, 31, 26]⟩, none, false, [], false⟩]))))))
 (.reg false [
 ⟨some 64, .binOp .add 3 (.tmp 17) (.const (.int .i64 1)) 3, none, false, [], false⟩,
 ⟨some 17, .move (.tmp 64), none, false, [], false⟩])))))))
 (.seq
 (.reg false [
 ⟨some 65, .load 31 (.tmp 1), none, false, [], false⟩,
 ⟨none, .store 31 (.tmp 2) (.tmp 65), none, false, [], false⟩])
 .ret))))
noncomputable def fi24 : FI := ⟨c24, 66, [.cell 2 31], .plain⟩
noncomputable def c25 : XC :=
 (.seq
 (.reg false [
 ⟨some 1, .box 36 (.tmp 0), none, false, [], false⟩,
 ⟨some 2, .assign (.const (.bool false)), none, false, [], false⟩])
 (.seq
 (.reg false [
 ⟨some 3, .assign (.const (.int .i64 0)), none, false, [], false⟩])
 (.seq
 (.seq
 (.reg false [
 ⟨some 4, .assign (.const (.int .i64 0)), none, false, [], false⟩])
 (.block 0
 (.loop
 (.seq
 (.seq
 (.reg false [
 ⟨some 6, .move (.tmp 4), none, false, [], false⟩,
 ⟨some 7, .fieldAddr 36 (.tmp 1) 1, none, false, [], false⟩,
 ⟨some 8, .load 33 (.tmp 7), none, false, [], false⟩,
 ⟨some 9, .call ⟨.builtin .len, #[.tmp 8], #[33]⟩, none, false, [], false⟩,
 ⟨some 10, .binOp .lss 3 (.tmp 6) (.tmp 9) 3, none, false, [], false⟩])
 (.cond (.tmp 10)
 .skip
 (.exit 0)))
 (.seq
 (.block 1
 (.seq
 (.reg true [
 ⟨some 13, .move (.tmp 3), none, false, [], false⟩,
 ⟨some 14, .fieldAddr 36 (.tmp 1) 1, none, false, [], false⟩,
 ⟨some 15, .load 33 (.tmp 14), none, false, [], false⟩,
 ⟨some 16, .move (.tmp 4), none, false, [], false⟩,
 ⟨some 17, .indexAddr 33 (.tmp 15) (.tmp 16), none, false, [], false⟩,
 ⟨some 18, .fieldAddr 31 (.tmp 17) 3, none, false, [], false⟩,
 ⟨some 19, .load 22 (.tmp 18), none, false, [], false⟩,
 ⟨some 20, .call ⟨.builtin .len, #[.tmp 19], #[22]⟩, none, false, [], false⟩,
 ⟨some 21, .binOp .add 3 (.tmp 13) (.tmp 20) 3, none, false, [], false⟩,
 ⟨some 22, .fieldAddr 36 (.tmp 1) 1, none, false, [], false⟩,
 ⟨some 23, .load 33 (.tmp 22), none, false, [], false⟩,
 ⟨some 24, .move (.tmp 4), none, false, [], false⟩,
 ⟨some 25, .indexAddr 33 (.tmp 23) (.tmp 24), none, false, [], false⟩,
 ⟨some 26, .fieldAddr 31 (.tmp 25) 4, none, false, [], false⟩,
 ⟨some 27, .load 29 (.tmp 26), none, false, [], false⟩,
 ⟨some 28, .call ⟨.builtin .len, #[.tmp 27], #[29]⟩, none, false, [], false⟩,
 ⟨some 29, .binOp .add 3 (.tmp 21) (.tmp 28) 3, none, false, [], false⟩,
 ⟨some 3, .assign (.tmp 29), none, false, [], false⟩])
 (.seq
 (.reg false [
 ⟨some 5, .assign (.const (.int .i64 0)), none, false, [], false⟩])
 (.block 2
 (.loop
 (.seq
 (.seq
 (.reg false [
 ⟨some 30, .move (.tmp 5), none, false, [], false⟩,
 ⟨some 31, .fieldAddr 36 (.tmp 1) 1, none, false, [], false⟩,
 ⟨some 32, .load 33 (.tmp 31), none, false, [], false⟩,
 ⟨some 33, .move (.tmp 4), none, false, [], false⟩,
 ⟨some 34, .indexAddr 33 (.tmp 32) (.tmp 33), none, false, [], false⟩,
 ⟨some 35, .fieldAddr 31 (.tmp 34) 4, none, false, [], false⟩,
 ⟨some 36, .load 29 (.tmp 35), none, false, [], false⟩,
 ⟨some 37, .call ⟨.builtin .len, #[.tmp 36], #[29]⟩, none, false, [], false⟩,
 ⟨some 38, .binOp .lss 3 (.tmp 30) (.tmp 37) 3, none, false, [], false⟩])
 (.cond (.tmp 38)
 .skip
 (.exit 2)))
 (.seq
 (.block 3
 (.reg false [
 ⟨some 41, .move (.tmp 3), none, false, [], false⟩,
 ⟨some 42, .fieldAddr 36 (.tmp 1) 1, none, false, [], false⟩,
 ⟨some 43, .load 33 (.tmp 42), none, false, [], false⟩,
 ⟨some 44, .move (.tmp 4), none, false, [], false⟩,
 ⟨some 45, .indexAddr 33 (.tmp 43) (.tmp 44), none, false, [], false⟩,
 ⟨some 46, .fieldAddr 31 (.tmp 45) 4, none, false, [], false⟩,
 ⟨some 47, .load 29 (.tmp 46), none, false, [], false⟩,
 ⟨some 48, .move (.tmp 5), none, false, [], false⟩,
 ⟨some 49, .indexAddr 29 (.tmp 47) (.tmp 48), none, false, [], false⟩,
 ⟨some 50, .fieldAddr 46 (.tmp 49) 0, none, false, [], false⟩,
 ⟨some 51, .load 26 (.tmp 50), none, false, [], false⟩,
 ⟨some 52, .call ⟨.builtin .len, #[.tmp 51], #[26]⟩, none, false, [], false⟩,
 ⟨some 53, .binOp .add 3 (.tmp 41) (.tmp 52) 3, none, false, [], false⟩,
 ⟨some 3, .assign (.tmp 53), none, false, [], false⟩]))
 (.reg false [
 ⟨some 39, .move (.tmp 5), none, false, [], false⟩,
 ⟨some 40, .binOp .add 3 (.tmp 39) (.const (.int .i64 1)) 3, none, false, [], false⟩,
 ⟨some 5, .assign (.tmp 40), none, false, [], false⟩]))))))))
 (.reg false [
 ⟨some 11, .move (.tmp 4), none, false, [], false⟩,
 ⟨some 12, .binOp .add 3 (.tmp 11) (.const (.int .i64 1)) 3, none, false, [], false⟩,
 ⟨some 4, .assign (.tmp 12), none, false, [], false⟩]))))))
 (.seq
 (.reg false [
 ⟨some 54, .move (.tmp 3), none, false, [], false⟩,
 ⟨some 55, .binOp .gtr 3 (.tmp 54) (.const (.int .i64 1000)) 3, none, false, [], false⟩,
 ⟨some 56, .move (.tmp 55), none, false, [], false⟩,
 ⟨some 57, .fieldAddr 36 (.tmp 1) 1, some (some 56, false), false, [], false⟩,
 ⟨some 58, .load 33 (.tmp 57), some (some 56, false), false, [], false⟩,
 ⟨some 59, .call ⟨.builtin .len, #[.tmp 58], #[33]⟩, some (some 56, false), false, [], false⟩,
 ⟨some 60, .binOp .gtr 3 (.tmp 59) (.const (.int .i64 12)) 3, some (some 56, false), false, [], false⟩,
 ⟨some 61, .pick (.tmp 56) (.const (.bool true)) (.tmp 60), none, false, [], false⟩,
 ⟨some 62, .move (.tmp 61), none, false, [], false⟩,
 ⟨some 63, .load 36 (.tmp 1), some (some 62, false), false, [], false⟩,
 ⟨some 64, .call ⟨.value (.func 52), #[.tmp 63], #[36]⟩, some (some 62, false), false, [], false⟩,
 ⟨some 65, .pick (.tmp 62) (.const (.bool true)) (.tmp 64), none, false, [], false⟩,
 ⟨some 66, .move (.tmp 65), none, false, [], false⟩,
 ⟨some 67, .load 36 (.tmp 1), some (some 66, false), false, [], false⟩,
 ⟨some 68, .call ⟨.value (.func 31), #[.tmp 67], #[36]⟩, some (some 66, false), false, [], false⟩,
 ⟨some 69, .binOp .neq 57 (.tmp 68) (.const (.int .i64 0)) 57, some (some 66, false), false, [], false⟩,
 ⟨some 70, .pick (.tmp 66) (.const (.bool true)) (.tmp 69), none, false, [], false⟩,
 ⟨some 2, .assign (.tmp 70), none, false, [], false⟩])
 .ret))))
noncomputable def fi25 : FI := ⟨c25, 71, [.tmp 2], .plain⟩
noncomputable def c26 : XC :=
 (.seq
 (.reg false [
 ⟨some 1, .box 31 (.tmp 0), none, false, [], false⟩,
 ⟨some 2, .alloc 31, none, false, [], false⟩])
 (.seq
 (.reg false [
 ⟨some 3, .fieldAddr 31 (.tmp 1) 3, none, false, [], false⟩,
 ⟨some 4, .load 22 (.tmp 3), none, false, [], false⟩,
 ⟨some 5, .call ⟨.value (.func 53), #[.tmp 4], #[22]⟩, none, false, [], false⟩,
 ⟨some 6, .fieldAddr 31 (.tmp 1) 3, none, false, [], false⟩,
 ⟨none, .store 22 (.tmp 6) (.tmp 5), none, false, [], false⟩])
 (.seq
 (.reg false [
 ⟨some 7, .fieldAddr 31 (.tmp 1) 4, none, false, [], false⟩,
 ⟨some 8, .load 29 (.tmp 7), none, false, [], false⟩,
 ⟨some 9, .call ⟨.value (.func 54), #[.tmp 8], #[29]⟩, none, false, [], false⟩,
 ⟨some 10, .fieldAddr 31 (.tmp 1) 4, none, false, [], false⟩,
 ⟨none, .store 29 (.tmp 10) (.tmp 9), none, false, [], false⟩])
 (.seq
 (.reg false [
 ⟨some 11, .load 31 (.tmp 1), none, false, [], false⟩,
 ⟨none, .store 31 (.tmp 2) (.tmp 11), none, false, [], false⟩])
 .ret))))
noncomputable def fi26 : FI := ⟨c26, 12, [.cell 2 31], .plain⟩
noncomputable def c27 : XC :=
 (.seq
 (.reg false [
 ⟨some 1, .box 31 (.tmp 0), none, false, [], false⟩,
 ⟨some 2, .alloc 31, none, false, [], false⟩])
 (.seq
 (.reg false [
 ⟨some 5, .load 31 (.tmp 1), none, false, [], false⟩,
 ⟨some 6, .call ⟨.value (.func 26), #[.tmp 5], #[31]⟩, none, false, [], false⟩,
 ⟨some 3, .alloc 31, none, false, [], false⟩,
 ⟨none, .store 31 (.tmp 3) (.tmp 6), none, false, [], false⟩])
 (.seq
 (.seq
 (.reg false [
 ⟨some 4, .assign (.const (.int .i64 0)), none, false, [], false⟩])
 (.block 0
 (.loop
 (.seq
 (.seq
 (.reg false [
 ⟨some 7, .move (.tmp 4), none, false, [], false⟩,
 ⟨some 8, .fieldAddr 31 (.tmp 1) 4, none, false, [], false⟩,
 ⟨some 9, .load 29 (.tmp 8), none, false, [], false⟩,
 ⟨some 10, .call ⟨.builtin .len, #[.tmp 9], #[29]⟩, none, false, [], false⟩,
 ⟨some 11, .binOp .lss 3 (.tmp 7) (.tmp 10) 3, none, false, [], false⟩])
 (.cond (.tmp 11)
 .skip
 (.exit 0)))
 (.seq
 (.block 1
 (.reg true [
 ⟨some 17, .load 31 (.tmp 1), none, false, [], false⟩,
 ⟨some 18, .fieldAddr 31 (.tmp 1) 4, none, false, [], false⟩,
 ⟨some 19, .load 29 (.tmp 18), none, false, [], false⟩,
 ⟨some 20, .move (.tmp 4), none, false, [], false⟩,
 ⟨some 21, .indexAddr 29 (.tmp 19) (.tmp 20), none, false, [], false⟩,
 ⟨some 22, .fieldAddr 46 (.tmp 21) 0, none, false, [], false⟩,
 ⟨some 23, .load 26 (.tmp 22), none, false, [], false⟩,
 ⟨some 24, .call ⟨.value (.func 55), #[.tmp 17, .tmp 23], #[31, 26]⟩, none, true, [false, false, false, true, true, true], false⟩,
 ⟨some 14, .fieldAddr 31 (.tmp 3) 4, none, false, [], false⟩,
 ⟨some 15, .load 29 (.tmp 14), none, false, [], true⟩,
 ⟨some 16, .move (.tmp 4), none, false, [], false⟩,
 ⟨some 25, .indexAddr 29 (.tmp 15) (.tmp 16), none, false, [], false⟩,
 ⟨some 26, .fieldAddr 46 (.tmp 25) 0, none, false, [], false⟩,
 ⟨none, .store 26 (.tmp 26) (.tmp 24), none, false, [], false⟩]))
 (.reg false [
 ⟨some 12, .move (.tmp 4), none, false, [], false⟩,
 ⟨some 13, .binOp .add 3 (.tmp 12) (.const (.int .i64 1)) 3, none, false, [], false⟩,
 ⟨some 4, .assign (.tmp 13), none, false, [], false⟩]))))))
 (.seq
 (.reg false [
 ⟨some 27, .load 31 (.tmp 3), none, false, [], false⟩,
 ⟨none, .store 31 (.tmp 2) (.tmp 27), none, false, [], false⟩])
 .ret))))
noncomputable def fi27 : FI := ⟨c27, 28, [.cell 2 31], .plain⟩
noncomputable def c28 : XC :=
 (.seq
 (.reg false [
 ⟨some 1, .box 31 (.tmp 0), none, false, [], false⟩])
 (.seq
 (.seq
 (.reg false [
 ⟨some 2, .assign (.const (.int .i64 0)), none, false, [], false⟩])
 (.block 0
 (.loop
 (.seq
 (.seq
 (.reg false [
 ⟨some 4, .move (.tmp 2), none, false, [], false⟩,
 ⟨some 5, .fieldAddr 31 (.tmp 1) 4, none, false, [], false⟩,
 ⟨some 6, .load 29 (.tmp 5), none, false, [], false⟩,
 ⟨some 7, .call ⟨.builtin .len, #[.tmp 6], #[29]⟩, none, false, [], false⟩,
 ⟨some 8, .binOp .lss 3 (.tmp 4) (.tmp 7) 3, none, false, [], false⟩])
 (.cond (.tmp 8)
 .skip
 (.exit 0)))
 (.seq
 (.block 1
 (.seq
 (.seq
 (.reg false [
 ⟨some 3, .assign (.const (.int .i64 0)), none, false, [], false⟩])
 (.block 2
 (.loop
 (.seq
 (.seq
 (.reg false [
 ⟨some 11, .move (.tmp 3), none, false, [], false⟩,
 ⟨some 12, .fieldAddr 31 (.tmp 1) 4, none, false, [], false⟩,
 ⟨some 13, .load 29 (.tmp 12), none, false, [], false⟩,
 ⟨some 14, .move (.tmp 2), none, false, [], false⟩,
 ⟨some 15, .indexAddr 29 (.tmp 13) (.tmp 14), none, false, [], false⟩,
 ⟨some 16, .fieldAddr 46 (.tmp 15) 0, none, false, [], false⟩,
 ⟨some 17, .load 26 (.tmp 16), none, false, [], false⟩,
 ⟨some 18, .call ⟨.builtin .len, #[.tmp 17], #[26]⟩, none, false, [], false⟩,
 ⟨some 19, .binOp .lss 3 (.tmp 11) (.tmp 18) 3, none, false, [], false⟩])
 (.cond (.tmp 19)
 .skip
 (.exit 2)))
 (.seq
 (.block 3
 (.reg false [
 ⟨some 22, .fieldAddr 31 (.tmp 1) 4, none, false, [], false⟩,
 ⟨some 23, .load 29 (.tmp 22), none, false, [], false⟩,
 ⟨some 24, .move (.tmp 2), none, false, [], false⟩,
 ⟨some 25, .indexAddr 29 (.tmp 23) (.tmp 24), none, false, [], false⟩,
 ⟨some 26, .fieldAddr 46 (.tmp 25) 0, none, false, [], false⟩,
 ⟨some 27, .load 26 (.tmp 26), none, false, [], false⟩,
 ⟨some 28, .move (.tmp 3), none, false, [], false⟩,
 ⟨some 29, .indexAddr 26 (.tmp 27) (.tmp 28), none, false, [], false⟩,
 ⟨some 30, .fieldAddr 24 (.tmp 29) 7, none, false, [], false⟩,
 ⟨some 31, .load 22 (.tmp 30), none, false, [], false⟩,
 ⟨some 32, .call ⟨.value (.func 56), #[.tmp 31], #[22]⟩, none, false, [], false⟩]))
 (.reg false [
 ⟨some 20, .move (.tmp 3), none, false, [], false⟩,
 ⟨some 21, .binOp .add 3 (.tmp 20) (.const (.int .i64 1)) 3, none, false, [], false⟩,
 ⟨some 3, .assign (.tmp 21), none, false, [], false⟩]))))))
 (.reg false [
 ⟨some 33, .fieldAddr 31 (.tmp 1) 4, none, false, [], false⟩,
 ⟨some 34, .load 29 (.tmp 33), none, false, [], false⟩,
 ⟨some 35, .move (.tmp 2), none, false, [], false⟩,
 ⟨some 36, .indexAddr 29 (.tmp 34) (.tmp 35), none, false, [], false⟩,
 ⟨some 37, .fieldAddr 46 (.tmp 36) 0, none, false, [], false⟩,
 ⟨some 38, .load 26 (.tmp 37), none, false, [], false⟩,
 ⟨some 39, .call ⟨.value (.func 57), #[.tmp 38], #[26]⟩, none, false, [], false⟩])))
 (.reg false [
 ⟨some 9, .move (.tmp 2), none, false, [], false⟩,
 ⟨some 10, .binOp .add 3 (.tmp 9) (.const (.int .i64 1)) 3, none, false, [], false⟩,
 ⟨some 2, .assign (.tmp 10), none, false, [], false⟩]))))))
 (.seq
 (.reg false [
 ⟨some 40, .fieldAddr 31 (.tmp 1) 3, none, false, [], false⟩,
 ⟨some 41, .load 22 (.tmp 40), none, false, [], false⟩,
 ⟨some 42, .call ⟨.value (.func 56), #[.tmp 41], #[22]⟩, none, false, [], false⟩])
 (.reg false [
 ⟨some 43, .fieldAddr 31 (.tmp 1) 4, none, false, [], false⟩,
 ⟨some 44, .load 29 (.tmp 43), none, false, [], false⟩,
 ⟨some 45, .call ⟨.value (.func 58), #[.tmp 44], #[29]⟩, none, false, [], false⟩]))))
noncomputable def fi28 : FI := ⟨c28, 46, [], .plain⟩
noncomputable def c29 : XC :=
 (.seq
 (.reg false [
 ⟨some 1, .box 36 (.tmp 0), none, false, [], false⟩,
 ⟨some 2, .alloc 36, none, false, [], false⟩])
 (.seq
 (.reg false [
 ⟨some 4, .load 36 (.tmp 1), none, false, [], false⟩,
 ⟨some 5, .call ⟨.value (.func 59), #[.tmp 4], #[36]⟩, none, false, [], false⟩,
 ⟨none, .store 36 (.tmp 1) (.tmp 5), none, false, [], false⟩])
 (.seq
 (.seq
 (.reg false [
 ⟨some 3, .assign (.const (.int .i64 0)), none, false, [], false⟩])
 (.block 0
 (.loop
 (.seq
 (.seq
 (.reg false [
 ⟨some 6, .move (.tmp 3), none, false, [], false⟩,
 ⟨some 7, .fieldAddr 36 (.tmp 1) 1, none, false, [], false⟩,
 ⟨some 8, .load 33 (.tmp 7), none, false, [], false⟩,
 ⟨some 9, .call ⟨.builtin .len, #[.tmp 8], #[33]⟩, none, false, [], false⟩,
 ⟨some 10, .binOp .lss 3 (.tmp 6) (.tmp 9) 3, none, false, [], false⟩])
 (.cond (.tmp 10)
 .skip
 (.exit 0)))
 (.seq
 (.block 1
 (.reg true [
 ⟨some 16, .fieldAddr 36 (.tmp 1) 1, none, false, [], false⟩,
 ⟨some 17, .load 33 (.tmp 16), none, false, [], false⟩,
 ⟨some 18, .move (.tmp 3), none, false, [], false⟩,
 ⟨some 19, .indexAddr 33 (.tmp 17) (.tmp 18), none, false, [], false⟩,
 ⟨some 20, .load 31 (.tmp 19), none, false, [], false⟩,
 ⟨some 21, .call ⟨.value (.func 24), #[.tmp 20], #[31]⟩, none, true, [false, false, false, true, true], false⟩,
 ⟨some 13, .fieldAddr 36 (.tmp 1) 1, none, false, [], false⟩,
 ⟨some 14, .load 33 (.tmp 13), none, false, [], true⟩,
 ⟨some 15, .move (.tmp 3), none, false, [], false⟩,
 ⟨some 22, .indexAddr 33 (.tmp 14) (.tmp 15), none, false, [], false⟩,
 ⟨none, .store 31 (.tmp 22) (.tmp 21), none, false, [], false⟩]))
 (.reg false [
 ⟨some 11, .move (.tmp 3), none, false, [], false⟩,
 ⟨some 12, .binOp .add 3 (.tmp 11) (.const (.int .i64 1)) 3, none, false, [], false⟩,
 ⟨some 3, .assign (.tmp 12), none, false, [], false⟩]))))))
 (.seq
 (.reg false [
 ⟨some 23, .load 36 (.tmp 1), none, false, [], false⟩,
 ⟨none, .store 36 (.tmp 2) (.tmp 23), none, false, [], false⟩])
 .ret))))
noncomputable def fi29 : FI := ⟨c29, 24, [.cell 2 36], .plain⟩
noncomputable def c30 : XC :=
 (.seq
 (.reg false [
 ⟨some 4, .assign (.const (.int .i64 0)), none, false, [], false⟩])
 (.seq
 (.seq
 (.reg false [
 ⟨some 5, .move (.tmp 1), none, false, [], false⟩,
 ⟨some 6, .binOp .lss 3 (.tmp 5) (.const (.int .i64 1)) 3, none, false, [], false⟩])
 (.cond (.tmp 6)
 (.seq
 (.reg false [
 ⟨some 4, .assign (.const (.int .i64 0)), none, false, [], false⟩])
 .ret)
 .skip))
 (.seq
 (.reg false [
 ⟨some 7, .move (.tmp 0), none, false, [], false⟩,
 ⟨some 8, .move (.tmp 1), none, false, [], false⟩,
 ⟨some 9, .binOp .rem 3 (.tmp 7) (.tmp 8) 3, none, false, [], false⟩,
 ⟨some 0, .assign (.tmp 9), none, false, [], false⟩])
 (.seq
 (.seq
 (.reg false [
 ⟨some 10, .move (.tmp 0), none, false, [], false⟩,
 ⟨some 11, .binOp .lss 3 (.tmp 10) (.const (.int .i64 0)) 3, none, false, [], false⟩])
 (.cond (.tmp 11)
 (.reg false [
 ⟨some 12, .move (.tmp 0), none, false, [], false⟩,
 ⟨some 13, .move (.tmp 1), none, false, [], false⟩,
 ⟨some 14, .binOp .add 3 (.tmp 12) (.tmp 13) 3, none, false, [], false⟩,
 ⟨some 0, .assign (.tmp 14), none, false, [], false⟩])
 .skip))
 (.seq
 (.reg false [
 ⟨some 15, .move (.tmp 0), none, false, [], false⟩,
 ⟨some 4, .assign (.tmp 15), none, false, [], false⟩])
 .ret)))))
noncomputable def fi30 : FI := ⟨c30, 16, [.tmp 4], .plain⟩
noncomputable def c31 : XC :=
 (.seq
 (.reg false [
 ⟨some 1, .box 36 (.tmp 0), none, false, [], false⟩,
 ⟨some 2, .assign (.const (.int .i64 0)), none, false, [], false⟩])
 (.seq
 (.seq
 (.reg false [
 ⟨some 9, .fieldAddr 36 (.tmp 1) 0, none, false, [], false⟩,
 ⟨some 10, .load 34 (.tmp 9), none, false, [], false⟩,
 ⟨some 11, .call ⟨.builtin .len, #[.tmp 10], #[34]⟩, none, false, [], false⟩,
 ⟨some 12, .move (.const (.int .i64 0)), none, false, [], false⟩])
 (.block 0
 (.loop
 (.seq
 (.reg false [
 ⟨some 13, .binOp .lss 3 (.tmp 12) (.tmp 11) 3, none, false, [], false⟩])
 (.seq
 (.cond (.tmp 13)
 .skip
 (.exit 0))
 (.seq
 (.block 1
 (.seq
 (.reg false [
 ⟨some 14, .indexAddr 34 (.tmp 10) (.tmp 12), none, false, [], false⟩,
 ⟨some 15, .load 93 (.tmp 14), none, false, [], false⟩,
 ⟨some 4, .alloc 93, none, false, [], false⟩,
 ⟨none, .store 93 (.tmp 4) (.tmp 15), none, false, [], false⟩])
 (.seq
 (.reg false [
 ⟨some 16, .fieldAddr 93 (.tmp 4) 1, none, false, [], false⟩,
 ⟨some 17, .load 3 (.tmp 16), none, false, [], false⟩,
 ⟨some 18, .call ⟨.value (.func 60), #[.tmp 17], #[3]⟩, none, false, [], false⟩,
 ⟨some 19, .unOp .not 4 (.tmp 18), none, false, [], false⟩,
 ⟨some 20, .move (.tmp 19), none, false, [], false⟩,
 ⟨some 21, .fieldAddr 93 (.tmp 4) 1, some (some 20, true), false, [], false⟩,
 ⟨some 22, .load 3 (.tmp 21), some (some 20, true), false, [], false⟩,
 ⟨some 23, .binOp .neq 3 (.tmp 22) (.const (.int .i64 3)) 3, some (some 20, true), false, [], false⟩,
 ⟨some 24, .move (.tmp 23), some (some 20, true), false, [], false⟩,
 ⟨some 25, .fieldAddr 93 (.tmp 4) 2, some (some 24, false), false, [], false⟩,
 ⟨some 26, .load 3 (.tmp 25), some (some 24, false), false, [], false⟩,
 ⟨some 27, .binOp .lss 3 (.tmp 26) (.const (.int .i64 1)) 3, some (some 24, false), false, [], false⟩,
 ⟨some 28, .pick (.tmp 24) (.const (.bool true)) (.tmp 27), some (some 20, true), false, [], false⟩,
 ⟨some 29, .pick (.tmp 20) (.tmp 28) (.const (.bool false)), none, false, [], false⟩])
 (.cond (.tmp 29)
 (.seq
 (.reg false [
 ⟨some 2, .assign (.const (.int .i64 6)), none, false, [], false⟩])
 .ret)
 .skip))))
 (.reg false [
 ⟨some 30, .binOp .add 3 (.tmp 12) (.const (.int .i64 1)) 3, none, false, [], false⟩,
 ⟨some 12, .move (.tmp 30), none, false, [], false⟩])))))))
 (.seq
 (.seq
 (.reg false [
 ⟨some 31, .fieldAddr 36 (.tmp 1) 1, none, false, [], false⟩,
 ⟨some 32, .load 33 (.tmp 31), none, false, [], false⟩,
 ⟨some 33, .call ⟨.builtin .len, #[.tmp 32], #[33]⟩, none, false, [], false⟩,
 ⟨some 34, .move (.const (.int .i64 0)), none, false, [], false⟩])
 (.block 2
 (.loop
 (.seq
 (.reg false [
 ⟨some 35, .binOp .lss 3 (.tmp 34) (.tmp 33) 3, none, false, [], false⟩])
 (.seq
 (.cond (.tmp 35)
 .skip
 (.exit 2))
 (.seq
 (.block 3
 (.seq
 (.reg false [
 ⟨some 36, .indexAddr 33 (.tmp 32) (.tmp 34), none, false, [], false⟩,
 ⟨some 37, .load 31 (.tmp 36), none, false, [], false⟩,
 ⟨some 6, .alloc 31, none, false, [], false⟩,
 ⟨none, .store 31 (.tmp 6) (.tmp 37), none, false, [], false⟩])
 (.seq
 (.reg false [
 ⟨some 38, .load 36 (.tmp 1), none, false, [], false⟩,
 ⟨some 39, .load 31 (.tmp 6), none, false, [], false⟩,
 ⟨some 40, .build 96 #[(0, .tmp 38), (1, .tmp 39)], none, false, [], false⟩,
 ⟨some 41, .call ⟨.value (.func 61), #[.tmp 40], #[96]⟩, none, false, [], false⟩,
 ⟨some 7, .assign (.tmp 41), none, false, [], false⟩])
 (.seq
 (.reg false [
 ⟨some 42, .move (.tmp 7), none, false, [], false⟩,
 ⟨some 43, .binOp .neq 57 (.tmp 42) (.const (.int .i64 0)) 57, none, false, [], false⟩])
 (.cond (.tmp 43)
 (.seq
 (.reg false [
 ⟨some 44, .move (.tmp 7), none, false, [], false⟩,
 ⟨some 2, .assign (.tmp 44), none, false, [], false⟩])
 .ret)
 .skip)))))
 (.reg false [
 ⟨some 45, .binOp .add 3 (.tmp 34) (.const (.int .i64 1)) 3, none, false, [], false⟩,
 ⟨some 34, .move (.tmp 45), none, false, [], false⟩])))))))
 (.seq
 (.reg false [
 ⟨some 46, .load 36 (.tmp 1), none, false, [], false⟩,
 ⟨some 47, .call ⟨.value (.func 62), #[.tmp 46], #[36]⟩, none, false, [], false⟩,
 ⟨some 8, .assign (.tmp 47), none, false, [], false⟩])
 (.seq
 (.seq
 (.reg false [
 ⟨some 48, .move (.tmp 8), none, false, [], false⟩,
 ⟨some 49, .binOp .lss 3 (.tmp 48) (.const (.int .i64 0)) 3, none, false, [], false⟩,
 ⟨some 50, .move (.tmp 49), none, false, [], false⟩,
 ⟨some 51, .fieldAddr 36 (.tmp 1) 1, some (some 50, false), false, [], false⟩,
 ⟨some 52, .load 33 (.tmp 51), some (some 50, false), false, [], false⟩,
 ⟨some 53, .move (.tmp 8), some (some 50, false), false, [], false⟩,
 ⟨some 54, .indexAddr 33 (.tmp 52) (.tmp 53), some (some 50, false), false, [], false⟩,
 ⟨some 55, .fieldAddr 31 (.tmp 54) 1, some (some 50, false), false, [], false⟩,
 ⟨some 56, .load 3 (.tmp 55), some (some 50, false), false, [], false⟩,
 ⟨some 57, .binOp .neq 3 (.tmp 56) (.const (.int .i64 1)) 3, some (some 50, false), false, [], false⟩,
 ⟨some 58, .pick (.tmp 50) (.const (.bool true)) (.tmp 57), none, false, [], false⟩,
 ⟨some 59, .move (.tmp 58), none, false, [], false⟩,
 ⟨some 60, .fieldAddr 36 (.tmp 1) 1, some (some 59, false), false, [], false⟩,
 ⟨some 61, .load 33 (.tmp 60), some (some 59, false), false, [], false⟩,
 ⟨some 62, .move (.tmp 8), some (some 59, false), false, [], false⟩,
 ⟨some 63, .indexAddr 33 (.tmp 61) (.tmp 62), some (some 59, false), false, [], false⟩,
 ⟨some 64, .fieldAddr 31 (.tmp 63) 2, some (some 59, false), false, [], false⟩,
 ⟨some 65, .load 3 (.tmp 64), some (some 59, false), false, [], false⟩,
 ⟨some 66, .binOp .neq 3 (.tmp 65) (.const (.int .i64 0)) 3, some (some 59, false), false, [], false⟩,
 ⟨some 67, .pick (.tmp 59) (.const (.bool true)) (.tmp 66), none, false, [], false⟩])
 (.cond (.tmp 67)
 (.seq
 (.reg false [
 ⟨some 2, .assign (.const (.int .i64 12)), none, false, [], false⟩])
 .ret)
 .skip))
 (.seq
 (.reg false [
 ⟨some 2, .assign (.const (.int .i64 0)), none, false, [], false⟩])
 .ret))))))
noncomputable def fi31 : FI := ⟨c31, 68, [.tmp 2], .plain⟩
noncomputable def c32 : XC :=
 (.seq
 (.reg false [
 ⟨some 2, .box 61 (.tmp 0), none, false, [], false⟩,
 ⟨some 3, .box 61 (.tmp 1), none, false, [], false⟩,
 ⟨some 4, .assign (.const (.bool false)), none, false, [], false⟩])
 (.seq
 (.reg false [
 ⟨some 5, .fieldAddr 61 (.tmp 2) 1, none, false, [], false⟩,
 ⟨some 6, .load 3 (.tmp 5), none, false, [], false⟩,
 ⟨some 7, .fieldAddr 61 (.tmp 3) 1, none, false, [], false⟩,
 ⟨some 8, .load 3 (.tmp 7), none, false, [], false⟩,
 ⟨some 9, .binOp .eql 3 (.tmp 6) (.tmp 8) 3, none, false, [], false⟩,
 ⟨some 10, .move (.tmp 9), none, false, [], false⟩,
 ⟨some 11, .fieldAddr 61 (.tmp 2) 2, some (some 10, true), false, [], false⟩,
 ⟨some 12, .load 3 (.tmp 11), some (some 10, true), false, [], false⟩,
 ⟨some 13, .fieldAddr 61 (.tmp 3) 2, some (some 10, true), false, [], false⟩,
 ⟨some 14, .load 3 (.tmp 13), some (some 10, true), false, [], false⟩,
 ⟨some 15, .binOp .eql 3 (.tmp 12) (.tmp 14) 3, some (some 10, true), false, [], false⟩,
 ⟨some 16, .pick (.tmp 10) (.tmp 15) (.const (.bool false)), none, false, [], false⟩,
 ⟨some 17, .move (.tmp 16), none, false, [], false⟩,
 ⟨some 18, .fieldAddr 61 (.tmp 2) 0, some (some 17, true), false, [], false⟩,
 ⟨some 19, .load 22 (.tmp 18), some (some 17, true), false, [], false⟩,
 ⟨some 20, .fieldAddr 61 (.tmp 3) 0, some (some 17, true), false, [], false⟩,
 ⟨some 21, .load 22 (.tmp 20), some (some 17, true), false, [], false⟩,
 ⟨some 22, .call ⟨.value (.func 20), #[.tmp 19, .tmp 21], #[22, 22]⟩, some (some 17, true), false, [], false⟩,
 ⟨some 23, .pick (.tmp 17) (.tmp 22) (.const (.bool false)), none, false, [], false⟩,
 ⟨some 4, .assign (.tmp 23), none, false, [], false⟩])
 .ret))
noncomputable def fi32 : FI := ⟨c32, 24, [.tmp 4], .plain⟩
noncomputable def c33 : XC :=
 (.seq
 (.reg false [
 ⟨some 3, .box 36 (.tmp 0), none, false, [], false⟩,
 ⟨some 6, .alloc 61, none, false, [], false⟩])
 (.seq
 (.reg false [
 ⟨some 11, .load 36 (.tmp 3), none, false, [], false⟩,
 ⟨some 12, .move (.tmp 1), none, false, [], false⟩,
 ⟨some 13, .move (.tmp 2), none, false, [], false⟩,
 ⟨some 14, .build 100 #[(0, .tmp 11), (1, .tmp 12), (2, .tmp 13)], none, false, [], false⟩,
 ⟨some 15, .box 100 (.tmp 14), none, false, [], false⟩,
 ⟨some 7, .alloc 98, none, false, [], false⟩,
 ⟨none, .store 98 (.tmp 7) (.tmp 15), none, false, [], false⟩])
 (.seq
 (.seq
 (.reg false [
 ⟨some 16, .fieldAddr 36 (.tmp 3) 0, none, false, [], false⟩,
 ⟨some 17, .load 34 (.tmp 16), none, false, [], false⟩,
 ⟨some 18, .call ⟨.builtin .len, #[.tmp 17], #[34]⟩, none, false, [], false⟩,
 ⟨some 19, .move (.const (.int .i64 0)), none, false, [], false⟩])
 (.block 0
 (.loop
 (.seq
 (.reg false [
 ⟨some 20, .binOp .lss 3 (.tmp 19) (.tmp 18) 3, none, false, [], false⟩])
 (.seq
 (.cond (.tmp 20)
 .skip
 (.exit 0))
 (.seq
 (.block 1
 (.seq
 (.reg false [
 ⟨some 21, .indexAddr 34 (.tmp 17) (.tmp 19), none, false, [], false⟩,
 ⟨some 22, .load 93 (.tmp 21), none, false, [], false⟩,
 ⟨some 9, .alloc 93, none, false, [], false⟩,
 ⟨none, .store 93 (.tmp 9) (.tmp 22), none, false, [], false⟩])
 (.reg true [
 ⟨some 28, .fieldAddr 93 (.tmp 9) 2, none, false, [], false⟩,
 ⟨some 29, .load 3 (.tmp 28), none, false, [], false⟩,
 ⟨some 30, .call ⟨.builtin .max, #[.tmp 29, .const (.int .i64 1)], #[3, 3]⟩, none, false, [], false⟩,
 ⟨some 31, .makeSlice 22 (.tmp 30) (.tmp 30), none, false, [], false⟩,
 ⟨some 32, .buildSlice 66 1 #[(0, .tmp 31)], none, false, [], false⟩,
 ⟨some 24, .load 98 (.tmp 7), none, false, [], false⟩,
 ⟨some 25, .nilCheck (.tmp 24), none, false, [], false⟩,
 ⟨some 26, .fieldAddr 100 (.tmp 25) 3, none, false, [], false⟩,
 ⟨some 27, .load 66 (.tmp 26), none, false, [], false⟩,
 ⟨some 33, .call ⟨.builtin .append, #[.tmp 27, .tmp 32], #[66, 66]⟩, none, true, [false, true, true, true], false⟩,
 ⟨some 23, .load 98 (.tmp 7), none, false, [], true⟩,
 ⟨some 34, .nilCheck (.tmp 23), none, false, [], false⟩,
 ⟨some 35, .fieldAddr 100 (.tmp 34) 3, none, false, [], false⟩,
 ⟨none, .store 66 (.tmp 35) (.tmp 33), none, false, [], false⟩])))
 (.reg false [
 ⟨some 36, .binOp .add 3 (.tmp 19) (.const (.int .i64 1)) 3, none, false, [], false⟩,
 ⟨some 19, .move (.tmp 36), none, false, [], false⟩])))))))
 (.seq
 .bad
 (.seq
 (.reg true [
 ⟨some 39, .load 36 (.tmp 3), none, false, [], false⟩,
 ⟨some 40, .call ⟨.value (.func 62), #[.tmp 39], #[36]⟩, none, true, [false, true, true], false⟩,
 ⟨some 38, .load 98 (.tmp 7), none, false, [], true⟩,
 ⟨some 41, .call ⟨.value (.func 64), #[.tmp 38, .tmp 40, .const (.slice none 0 0)], #[98, 3, 22]⟩, none, false, [true], false⟩,
 ⟨some 10, .assign (.tmp 41), none, false, [], false⟩])
 (.seq
 (.reg false [
 ⟨some 42, .load 98 (.tmp 7), none, false, [], false⟩,
 ⟨some 43, .nilCheck (.tmp 42), none, false, [], false⟩,
 ⟨some 44, .fieldAddr 100 (.tmp 43) 4, none, false, [], false⟩,
 ⟨some 45, .fieldAddr 61 (.tmp 44) 0, none, false, [], false⟩,
 ⟨some 46, .load 22 (.tmp 45), none, false, [], false⟩,
 ⟨some 47, .move (.tmp 10), none, false, [], false⟩,
 ⟨some 48, .build 61 #[(0, .tmp 46), (1, .const (.int .i64 1)), (2, .tmp 47)], none, false, [], false⟩,
 ⟨none, .store 61 (.tmp 6) (.tmp 48), none, false, [], false⟩])
 .ret))))))
noncomputable def fi33 : FI := ⟨c33, 49, [.cell 6 61], .dfr [(.reg false [
 ⟨some 3, .box 36 (.tmp 0), none, false, [], false⟩,
 ⟨some 6, .alloc 61, none, false, [], false⟩]), (.reg false [
 ⟨some 11, .load 36 (.tmp 3), none, false, [], false⟩,
 ⟨some 12, .move (.tmp 1), none, false, [], false⟩,
 ⟨some 13, .move (.tmp 2), none, false, [], false⟩,
 ⟨some 14, .build 100 #[(0, .tmp 11), (1, .tmp 12), (2, .tmp 13)], none, false, [], false⟩,
 ⟨some 15, .box 100 (.tmp 14), none, false, [], false⟩,
 ⟨some 7, .alloc 98, none, false, [], false⟩,
 ⟨none, .store 98 (.tmp 7) (.tmp 15), none, false, [], false⟩]), (.seq
 (.reg false [
 ⟨some 16, .fieldAddr 36 (.tmp 3) 0, none, false, [], false⟩,
 ⟨some 17, .load 34 (.tmp 16), none, false, [], false⟩,
 ⟨some 18, .call ⟨.builtin .len, #[.tmp 17], #[34]⟩, none, false, [], false⟩,
 ⟨some 19, .move (.const (.int .i64 0)), none, false, [], false⟩])
 (.block 0
 (.loop
 (.seq
 (.reg false [
 ⟨some 20, .binOp .lss 3 (.tmp 19) (.tmp 18) 3, none, false, [], false⟩])
 (.seq
 (.cond (.tmp 20)
 .skip
 (.exit 0))
 (.seq
 (.block 1
 (.seq
 (.reg false [
 ⟨some 21, .indexAddr 34 (.tmp 17) (.tmp 19), none, false, [], false⟩,
 ⟨some 22, .load 93 (.tmp 21), none, false, [], false⟩,
 ⟨some 9, .alloc 93, none, false, [], false⟩,
 ⟨none, .store 93 (.tmp 9) (.tmp 22), none, false, [], false⟩])
 (.reg true [
 ⟨some 28, .fieldAddr 93 (.tmp 9) 2, none, false, [], false⟩,
 ⟨some 29, .load 3 (.tmp 28), none, false, [], false⟩,
 ⟨some 30, .call ⟨.builtin .max, #[.tmp 29, .const (.int .i64 1)], #[3, 3]⟩, none, false, [], false⟩,
 ⟨some 31, .makeSlice 22 (.tmp 30) (.tmp 30), none, false, [], false⟩,
 ⟨some 32, .buildSlice 66 1 #[(0, .tmp 31)], none, false, [], false⟩,
 ⟨some 24, .load 98 (.tmp 7), none, false, [], false⟩,
 ⟨some 25, .nilCheck (.tmp 24), none, false, [], false⟩,
 ⟨some 26, .fieldAddr 100 (.tmp 25) 3, none, false, [], false⟩,
 ⟨some 27, .load 66 (.tmp 26), none, false, [], false⟩,
 ⟨some 33, .call ⟨.builtin .append, #[.tmp 27, .tmp 32], #[66, 66]⟩, none, true, [false, true, true, true], false⟩,
 ⟨some 23, .load 98 (.tmp 7), none, false, [], true⟩,
 ⟨some 34, .nilCheck (.tmp 23), none, false, [], false⟩,
 ⟨some 35, .fieldAddr 100 (.tmp 34) 3, none, false, [], false⟩,
 ⟨none, .store 66 (.tmp 35) (.tmp 33), none, false, [], false⟩])))
 (.reg false [
 ⟨some 36, .binOp .add 3 (.tmp 19) (.const (.int .i64 1)) 3, none, false, [], false⟩,
 ⟨some 19, .move (.tmp 36), none, false, [], false⟩]))))))), (.reg false [
 ⟨some 37, .makeFunc (.func 63) #[] #[.tmp 7, .tmp 6], none, false, [], false⟩])] (.tmp 37) (.seq
 (.reg true [
 ⟨some 39, .load 36 (.tmp 3), none, false, [], false⟩,
 ⟨some 40, .call ⟨.value (.func 62), #[.tmp 39], #[36]⟩, none, true, [false, true, true], false⟩,
 ⟨some 38, .load 98 (.tmp 7), none, false, [], true⟩,
 ⟨some 41, .call ⟨.value (.func 64), #[.tmp 38, .tmp 40, .const (.slice none 0 0)], #[98, 3, 22]⟩, none, false, [true], false⟩,
 ⟨some 10, .assign (.tmp 41), none, false, [], false⟩])
 (.seq
 (.reg false [
 ⟨some 42, .load 98 (.tmp 7), none, false, [], false⟩,
 ⟨some 43, .nilCheck (.tmp 42), none, false, [], false⟩,
 ⟨some 44, .fieldAddr 100 (.tmp 43) 4, none, false, [], false⟩,
 ⟨some 45, .fieldAddr 61 (.tmp 44) 0, none, false, [], false⟩,
 ⟨some 46, .load 22 (.tmp 45), none, false, [], false⟩,
 ⟨some 47, .move (.tmp 10), none, false, [], false⟩,
 ⟨some 48, .build 61 #[(0, .tmp 46), (1, .const (.int .i64 1)), (2, .tmp 47)], none, false, [], false⟩,
 ⟨none, .store 61 (.tmp 6) (.tmp 48), none, false, [], false⟩])
 .ret))⟩
noncomputable def c34 : XC :=
 (.seq
 (.reg false [
 ⟨some 2, .box 36 (.tmp 0), none, false, [], false⟩,
 ⟨some 3, .box 36 (.tmp 1), none, false, [], false⟩,
 ⟨some 4, .assign (.const (.bool false)), none, false, [], false⟩])
 (.seq
 (.seq
 (.reg false [
 ⟨some 16, .fieldAddr 36 (.tmp 3) 1, none, false, [], false⟩,
 ⟨some 17, .load 33 (.tmp 16), none, false, [], false⟩,
 ⟨some 18, .call ⟨.builtin .len, #[.tmp 17], #[33]⟩, none, false, [], false⟩,
 ⟨some 19, .fieldAddr 36 (.tmp 2) 1, none, false, [], false⟩,
 ⟨some 20, .load 33 (.tmp 19), none, false, [], false⟩,
 ⟨some 21, .call ⟨.builtin .len, #[.tmp 20], #[33]⟩, none, false, [], false⟩,
 ⟨some 22, .binOp .neq 3 (.tmp 18) (.tmp 21) 3, none, false, [], false⟩])
 (.cond (.tmp 22)
 (.seq
 (.reg false [
 ⟨some 4, .assign (.const (.bool false)), none, false, [], false⟩])
 .ret)
 .skip))
 (.seq
 (.seq
 (.reg false [
 ⟨some 5, .assign (.const (.int .i64 0)), none, false, [], false⟩])
 (.block 0
 (.loop
 (.seq
 (.seq
 (.reg false [
 ⟨some 23, .move (.tmp 5), none, false, [], false⟩,
 ⟨some 24, .fieldAddr 36 (.tmp 2) 1, none, false, [], false⟩,
 ⟨some 25, .load 33 (.tmp 24), none, false, [], false⟩,
 ⟨some 26, .call ⟨.builtin .len, #[.tmp 25], #[33]⟩, none, false, [], false⟩,
 ⟨some 27, .binOp .lss 3 (.tmp 23) (.tmp 26) 3, none, false, [], false⟩])
 (.cond (.tmp 27)
 .skip
 (.exit 0)))
 (.seq
 (.block 1
 (.seq
 (.reg false [
 ⟨some 30, .fieldAddr 36 (.tmp 2) 1, none, false, [], false⟩,
 ⟨some 31, .load 33 (.tmp 30), none, false, [], false⟩,
 ⟨some 32, .move (.tmp 5), none, false, [], false⟩,
 ⟨some 33, .indexAddr 33 (.tmp 31) (.tmp 32), none, false, [], false⟩,
 ⟨some 34, .load 31 (.tmp 33), none, false, [], false⟩,
 ⟨some 6, .alloc 31, none, false, [], false⟩,
 ⟨none, .store 31 (.tmp 6) (.tmp 34), none, false, [], false⟩])
 (.seq
 (.reg false [
 ⟨some 35, .fieldAddr 36 (.tmp 3) 1, none, false, [], false⟩,
 ⟨some 36, .load 33 (.tmp 35), none, false, [], false⟩,
 ⟨some 37, .move (.tmp 5), none, false, [], false⟩,
 ⟨some 38, .indexAddr 33 (.tmp 36) (.tmp 37), none, false, [], false⟩,
 ⟨some 39, .load 31 (.tmp 38), none, false, [], false⟩,
 ⟨some 7, .alloc 31, none, false, [], false⟩,
 ⟨none, .store 31 (.tmp 7) (.tmp 39), none, false, [], false⟩])
 (.seq
 (.seq
 (.reg false [
 ⟨some 40, .fieldAddr 31 (.tmp 6) 4, none, false, [], false⟩,
 ⟨some 41, .load 29 (.tmp 40), none, false, [], false⟩,
 ⟨some 42, .call ⟨.builtin .len, #[.tmp 41], #[29]⟩, none, false, [], false⟩,
 ⟨some 43, .fieldAddr 31 (.tmp 7) 4, none, false, [], false⟩,
 ⟨some 44, .load 29 (.tmp 43), none, false, [], false⟩,
 ⟨some 45, .call ⟨.builtin .len, #[.tmp 44], #[29]⟩, none, false, [], false⟩,
 ⟨some 46, .binOp .neq 3 (.tmp 42) (.tmp 45) 3, none, false, [], false⟩,
 ⟨some 47, .move (.tmp 46), none, false, [], false⟩,
 ⟨some 48, .fieldAddr 31 (.tmp 6) 3, some (some 47, false), false, [], false⟩,
 ⟨some 49, .load 22 (.tmp 48), some (some 47, false), false, [], false⟩,
 ⟨some 50, .fieldAddr 31 (.tmp 7) 3, some (some 47, false), false, [], false⟩,
 ⟨some 51, .load 22 (.tmp 50), some (some 47, false), false, [], false⟩,
 ⟨some 52, .call ⟨.value (.func 20), #[.tmp 49, .tmp 51], #[22, 22]⟩, some (some 47, false), false, [], false⟩,
 ⟨some 53, .unOp .not 4 (.tmp 52), some (some 47, false), false, [], false⟩,
 ⟨some 54, .pick (.tmp 47) (.const (.bool true)) (.tmp 53), none, false, [], false⟩])
 (.cond (.tmp 54)
 (.seq
 (.reg false [
 ⟨some 4, .assign (.const (.bool false)), none, false, [], false⟩])
 .ret)
 .skip))
 (.seq
 (.reg false [
 ⟨some 8, .assign (.const (.int .i64 0)), none, false, [], false⟩])
 (.block 2
 (.loop
 (.seq
 (.seq
 (.reg false [
 ⟨some 55, .move (.tmp 8), none, false, [], false⟩,
 ⟨some 56, .fieldAddr 31 (.tmp 6) 4, none, false, [], false⟩,
 ⟨some 57, .load 29 (.tmp 56), none, false, [], false⟩,
 ⟨some 58, .call ⟨.builtin .len, #[.tmp 57], #[29]⟩, none, false, [], false⟩,
 ⟨some 59, .binOp .lss 3 (.tmp 55) (.tmp 58) 3, none, false, [], false⟩])
 (.cond (.tmp 59)
 .skip
 (.exit 2)))
 (.seq
 (.block 3
 (.seq
 (.reg false [
 ⟨some 62, .fieldAddr 31 (.tmp 6) 4, none, false, [], false⟩,
 ⟨some 63, .load 29 (.tmp 62), none, false, [], false⟩,
 ⟨some 64, .move (.tmp 8), none, false, [], false⟩,
 ⟨some 65, .indexAddr 29 (.tmp 63) (.tmp 64), none, false, [], false⟩,
 ⟨some 66, .load 46 (.tmp 65), none, false, [], false⟩,
 ⟨some 9, .alloc 46, none, false, [], false⟩,
 ⟨none, .store 46 (.tmp 9) (.tmp 66), none, false, [], false⟩])
 (.seq
 (.reg false [
 ⟨some 67, .fieldAddr 31 (.tmp 7) 4, none, false, [], false⟩,
 ⟨some 68, .load 29 (.tmp 67), none, false, [], false⟩,
 ⟨some 69, .move (.tmp 8), none, false, [], false⟩,
 ⟨some 70, .indexAddr 29 (.tmp 68) (.tmp 69), none, false, [], false⟩,
 ⟨some 71, .load 46 (.tmp 70), none, false, [], false⟩,
 ⟨some 10, .alloc 46, none, false, [], false⟩,
 ⟨none, .store 46 (.tmp 10) (.tmp 71), none, false, [], false⟩])
 (.seq
 (.seq
 (.reg false [
 ⟨some 72, .fieldAddr 46 (.tmp 9) 1, none, false, [], false⟩,
 ⟨some 73, .load 44 (.tmp 72), none, false, [], false⟩,
 ⟨some 74, .fieldAddr 46 (.tmp 10) 1, none, false, [], false⟩,
 ⟨some 75, .load 44 (.tmp 74), none, false, [], false⟩,
 ⟨some 76, .binOp .neq 44 (.tmp 73) (.tmp 75) 44, none, false, [], false⟩,
 ⟨some 77, .move (.tmp 76), none, false, [], false⟩,
 ⟨some 78, .fieldAddr 46 (.tmp 9) 0, some (some 77, false), false, [], false⟩,
 ⟨some 79, .load 26 (.tmp 78), some (some 77, false), false, [], false⟩,
 ⟨some 80, .call ⟨.builtin .len, #[.tmp 79], #[26]⟩, some (some 77, false), false, [], false⟩,
 ⟨some 81, .fieldAddr 46 (.tmp 10) 0, some (some 77, false), false, [], false⟩,
 ⟨some 82, .load 26 (.tmp 81), some (some 77, false), false, [], false⟩,
 ⟨some 83, .call ⟨.builtin .len, #[.tmp 82], #[26]⟩, some (some 77, false), false, [], false⟩,
 ⟨some 84, .binOp .neq 3 (.tmp 80) (.tmp 83) 3, some (some 77, false), false, [], false⟩,
 ⟨some 85, .pick (.tmp 77) (.const (.bool true)) (.tmp 84), none, false, [], false⟩])
 (.cond (.tmp 85)
 (.seq
 (.reg false [
 ⟨some 4, .assign (.const (.bool false)), none, false, [], false⟩])
 .ret)
 .skip))
 (.seq
 (.reg false [
 ⟨some 11, .assign (.const (.int .i64 0)), none, false, [], false⟩])
 (.block 4
 (.loop
 (.seq
 (.seq
 (.reg false [
 ⟨some 86, .move (.tmp 11), none, false, [], false⟩,
 ⟨some 87, .fieldAddr 46 (.tmp 9) 0, none, false, [], false⟩,
 ⟨some 88, .load 26 (.tmp 87), none, false, [], false⟩,
 ⟨some 89, .call ⟨.builtin .len, #[.tmp 88], #[26]⟩, none, false, [], false⟩,
 ⟨some 90, .binOp .lss 3 (.tmp 86) (.tmp 89) 3, none, false, [], false⟩])
 (.cond (.tmp 90)
 .skip
 (.exit 4)))
 (.seq
 (.block 5
 (.seq
 (.reg false [
 ⟨some 93, .fieldAddr 46 (.tmp 9) 0, none, false, [], false⟩,
 ⟨some 94, .load 26 (.tmp 93), none, false, [], false⟩,
 ⟨some 95, .move (.tmp 11), none, false, [], false⟩,
 ⟨some 96, .indexAddr 26 (.tmp 94) (.tmp 95), none, false, [], false⟩,
 ⟨some 97, .load 24 (.tmp 96), none, false, [], false⟩,
 ⟨some 12, .alloc 24, none, false, [], false⟩,
 ⟨none, .store 24 (.tmp 12) (.tmp 97), none, false, [], false⟩])
 (.seq
 (.reg false [
 ⟨some 98, .fieldAddr 46 (.tmp 10) 0, none, false, [], false⟩,
 ⟨some 99, .load 26 (.tmp 98), none, false, [], false⟩,
 ⟨some 100, .move (.tmp 11), none, false, [], false⟩,
 ⟨some 101, .indexAddr 26 (.tmp 99) (.tmp 100), none, false, [], false⟩,
 ⟨some 102, .load 24 (.tmp 101), none, false, [], false⟩,
 ⟨some 13, .alloc 24, none, false, [], false⟩,
 ⟨none, .store 24 (.tmp 13) (.tmp 102), none, false, [], false⟩])
 (.seq
 (.reg false [
 ⟨some 103, .fieldAddr 24 (.tmp 12) 0, none, false, [], false⟩,
 ⟨some 104, .load 3 (.tmp 103), none, false, [], false⟩,
 ⟨some 105, .binOp .eql 3 (.tmp 104) (.const (.int .i64 1)) 3, none, false, [], false⟩,
 ⟨some 106, .move (.tmp 105), none, false, [], false⟩,
 ⟨some 107, .fieldAddr 24 (.tmp 12) 0, some (some 106, false), false, [], false⟩,
 ⟨some 108, .load 3 (.tmp 107), some (some 106, false), false, [], false⟩,
 ⟨some 109, .binOp .eql 3 (.tmp 108) (.const (.int .i64 3)) 3, some (some 106, false), false, [], false⟩,
 ⟨some 110, .move (.tmp 109), some (some 106, false), false, [], false⟩,
 ⟨some 111, .fieldAddr 24 (.tmp 12) 6, some (some 110, true), false, [], false⟩,
 ⟨some 112, .load 9 (.tmp 111), some (some 110, true), false, [], false⟩,
 ⟨some 113, .binOp .neq 9 (.tmp 112) (.const (.string ⟨#[47]⟩)) 9, some (some 110, true), false, [], false⟩,
 ⟨some 114, .pick (.tmp 110) (.tmp 113) (.const (.bool false)), some (some 106, false), false, [], false⟩,
 ⟨some 115, .move (.tmp 114), some (some 106, false), false, [], false⟩,
 ⟨some 116, .fieldAddr 24 (.tmp 12) 6, some (some 115, true), false, [], false⟩,
 ⟨some 117, .load 9 (.tmp 116), some (some 115, true), false, [], false⟩,
 ⟨some 118, .binOp .neq 9 (.tmp 117) (.const (.string ⟨#[37]⟩)) 9, some (some 115, true), false, [], false⟩,
 ⟨some 119, .pick (.tmp 115) (.tmp 118) (.const (.bool false)), some (some 106, false), false, [], false⟩,
 ⟨some 120, .pick (.tmp 106) (.const (.bool true)) (.tmp 119), none, false, [], false⟩,
 ⟨some 121, .move (.tmp 120), none, false, [], false⟩,
 ⟨some 122, .fieldAddr 24 (.tmp 12) 0, some (some 121, false), false, [], false⟩,
 ⟨some 123, .load 3 (.tmp 122), some (some 121, false), false, [], false⟩,
 ⟨some 124, .binOp .eql 3 (.tmp 123) (.const (.int .i64 4)) 3, some (some 121, false), false, [], false⟩,
 ⟨some 125, .pick (.tmp 121) (.const (.bool true)) (.tmp 124), none, false, [], false⟩,
 ⟨some 14, .assign (.tmp 125), none, false, [], false⟩])
 (.seq
 (.reg false [
 ⟨some 126, .move (.tmp 14), none, false, [], false⟩,
 ⟨some 127, .move (.tmp 126), none, false, [], false⟩,
 ⟨some 128, .fieldAddr 24 (.tmp 13) 0, some (some 127, true), false, [], false⟩,
 ⟨some 129, .load 3 (.tmp 128), some (some 127, true), false, [], false⟩,
 ⟨some 130, .binOp .eql 3 (.tmp 129) (.const (.int .i64 2)) 3, some (some 127, true), false, [], false⟩,
 ⟨some 131, .pick (.tmp 127) (.tmp 130) (.const (.bool false)), none, false, [], false⟩,
 ⟨some 132, .move (.tmp 131), none, false, [], false⟩,
 ⟨some 133, .fieldAddr 24 (.tmp 13) 2, some (some 132, true), false, [], false⟩,
 ⟨some 134, .load 3 (.tmp 133), some (some 132, true), false, [], false⟩,
 ⟨some 135, .fieldAddr 24 (.tmp 12) 2, some (some 132, true), false, [], false⟩,
 ⟨some 136, .load 3 (.tmp 135), some (some 132, true), false, [], false⟩,
 ⟨some 137, .binOp .eql 3 (.tmp 134) (.tmp 136) 3, some (some 132, true), false, [], false⟩,
 ⟨some 138, .pick (.tmp 132) (.tmp 137) (.const (.bool false)), none, false, [], false⟩,
 ⟨some 139, .move (.tmp 138), none, false, [], false⟩,
 ⟨some 140, .fieldAddr 24 (.tmp 13) 3, some (some 139, true), false, [], false⟩,
 ⟨some 141, .load 3 (.tmp 140), some (some 139, true), false, [], false⟩,
 ⟨some 142, .fieldAddr 24 (.tmp 12) 2, some (some 139, true), false, [], false⟩,
 ⟨some 143, .load 3 (.tmp 142), some (some 139, true), false, [], false⟩,
 ⟨some 144, .binOp .neq 3 (.tmp 141) (.tmp 143) 3, some (some 139, true), false, [], false⟩,
 ⟨some 145, .pick (.tmp 139) (.tmp 144) (.const (.bool false)), none, false, [], false⟩,
 ⟨some 15, .assign (.tmp 145), none, false, [], false⟩])
 (.seq
 (.reg false [
 ⟨some 146, .move (.tmp 15), none, false, [], false⟩,
 ⟨some 147, .unOp .not 4 (.tmp 146), none, false, [], false⟩,
 ⟨some 148, .move (.tmp 147), none, false, [], false⟩,
 ⟨some 149, .load 24 (.tmp 12), some (some 148, true), false, [], false⟩,
 ⟨some 150, .load 24 (.tmp 13), some (some 148, true), false, [], false⟩,
 ⟨some 151, .call ⟨.value (.func 65), #[.tmp 149, .tmp 150], #[24, 24]⟩, some (some 148, true), false, [], false⟩,
 ⟨some 152, .unOp .not 4 (.tmp 151), some (some 148, true), false, [], false⟩,
 ⟨some 153, .pick (.tmp 148) (.tmp 152) (.const (.bool false)), none, false, [], false⟩])
 (.cond (.tmp 153)
 (.seq
 (.reg false [
 ⟨some 4, .assign (.const (.bool false)), none, false, [], false⟩])
 .ret)
 .skip)))))))
 (.reg false [
 ⟨some 91, .move (.tmp 11), none, false, [], false⟩,
 ⟨some 92, .binOp .add 3 (.tmp 91) (.const (.int .i64 1)) 3, none, false, [], false⟩,
 ⟨some 11, .assign (.tmp 92), none, false, [], false⟩]))))))))))
 (.reg false [
 ⟨some 60, .move (.tmp 8), none, false, [], false⟩,
 ⟨some 61, .binOp .add 3 (.tmp 60) (.const (.int .i64 1)) 3, none, false, [], false⟩,
 ⟨some 8, .assign (.tmp 61), none, false, [], false⟩]))))))))))
 (.reg false [
 ⟨some 28, .move (.tmp 5), none, false, [], false⟩,
 ⟨some 29, .binOp .add 3 (.tmp 28) (.const (.int .i64 1)) 3, none, false, [], false⟩,
 ⟨some 5, .assign (.tmp 29), none, false, [], false⟩]))))))
 (.seq
 (.reg false [
 ⟨some 4, .assign (.const (.bool true)), none, false, [], false⟩])
 .ret))))
noncomputable def fi34 : FI := ⟨c34, 154, [.tmp 4], .plain⟩
noncomputable def c35 : XC :=
 (.seq
 (.reg false [
 ⟨some 4, .assign (.const (.bool false)), none, false, [], false⟩])
 (.seq
 (.seq
 (.reg false [
 ⟨some 6, .move (.tmp 0), none, false, [], false⟩,
 ⟨some 7, .call ⟨.builtin .len, #[.tmp 6], #[26]⟩, none, false, [], false⟩,
 ⟨some 8, .move (.tmp 1), none, false, [], false⟩,
 ⟨some 9, .call ⟨.builtin .len, #[.tmp 8], #[26]⟩, none, false, [], false⟩,
 ⟨some 10, .binOp .neq 3 (.tmp 7) (.tmp 9) 3, none, false, [], false⟩])
 (.cond (.tmp 10)
 (.seq
 (.reg false [
 ⟨some 4, .assign (.const (.bool false)), none, false, [], false⟩])
 .ret)
 .skip))
 (.seq
 (.seq
 (.reg false [
 ⟨some 5, .assign (.const (.int .i64 0)), none, false, [], false⟩])
 (.block 0
 (.loop
 (.seq
 (.seq
 (.reg false [
 ⟨some 11, .move (.tmp 5), none, false, [], false⟩,
 ⟨some 12, .move (.tmp 0), none, false, [], false⟩,
 ⟨some 13, .call ⟨.builtin .len, #[.tmp 12], #[26]⟩, none, false, [], false⟩,
 ⟨some 14, .binOp .lss 3 (.tmp 11) (.tmp 13) 3, none, false, [], false⟩])
 (.cond (.tmp 14)
 .skip
 (.exit 0)))
 (.seq
 (.block 1
 (.seq
 (.reg true [
 ⟨some 17, .move (.tmp 0), none, false, [], false⟩,
 ⟨some 18, .move (.tmp 5), none, false, [], false⟩,
 ⟨some 19, .indexAddr 26 (.tmp 17) (.tmp 18), none, false, [], false⟩,
 ⟨some 20, .load 24 (.tmp 19), none, false, [], false⟩,
 ⟨some 21, .move (.tmp 1), none, false, [], false⟩,
 ⟨some 22, .move (.tmp 5), none, false, [], false⟩,
 ⟨some 23, .indexAddr 26 (.tmp 21) (.tmp 22), none, false, [], false⟩,
 ⟨some 24, .load 24 (.tmp 23), none, false, [], false⟩,
 ⟨some 25, .call ⟨.value (.func 65), #[.tmp 20, .tmp 24], #[24, 24]⟩, none, false, [true], false⟩,
 ⟨some 26, .unOp .not 4 (.tmp 25), none, false, [], false⟩])
 (.cond (.tmp 26)
 (.seq
 (.reg false [
 ⟨some 4, .assign (.const (.bool false)), none, false, [], false⟩])
 .ret)
 .skip)))
 (.reg false [
 ⟨some 15, .move (.tmp 5), none, false, [], false⟩,
 ⟨some 16, .binOp .add 3 (.tmp 15) (.const (.int .i64 1)) 3, none, false, [], false⟩,
 ⟨some 5, .assign (.tmp 16), none, false, [], false⟩]))))))
 (.seq
 (.reg false [
 ⟨some 4, .assign (.const (.bool true)), none, false, [], false⟩])
 .ret))))
noncomputable def fi35 : FI := ⟨c35, 27, [.tmp 4], .plain⟩
noncomputable def c43 : XC :=
 (.seq
 (.reg false [
 ⟨some 4, .assign (.const (.bool false)), none, false, [], false⟩])
 (.seq
 (.seq
 (.reg false [
 ⟨some 6, .move (.tmp 0), none, false, [], false⟩,
 ⟨some 7, .call ⟨.builtin .len, #[.tmp 6], #[29]⟩, none, false, [], false⟩,
 ⟨some 8, .move (.tmp 1), none, false, [], false⟩,
 ⟨some 9, .call ⟨.builtin .len, #[.tmp 8], #[29]⟩, none, false, [], false⟩,
 ⟨some 10, .binOp .neq 3 (.tmp 7) (.tmp 9) 3, none, false, [], false⟩])
 (.cond (.tmp 10)
 (.seq
 (.reg false [
 ⟨some 4, .assign (.const (.bool false)), none, false, [], false⟩])
 .ret)
 .skip))
 (.seq
 (.seq
 (.reg false [
 ⟨some 5, .assign (.const (.int .i64 0)), none, false, [], false⟩])
 (.block 0
 (.loop
 (.seq
 (.seq
 (.reg false [
 ⟨some 11, .move (.tmp 5), none, false, [], false⟩,
 ⟨some 12, .move (.tmp 0), none, false, [], false⟩,
 ⟨some 13, .call ⟨.builtin .len, #[.tmp 12], #[29]⟩, none, false, [], false⟩,
 ⟨some 14, .binOp .lss 3 (.tmp 11) (.tmp 13) 3, none, false, [], false⟩])
 (.cond (.tmp 14)
 .skip
 (.exit 0)))
 (.seq
 (.block 1
 (.seq
 (.reg true [
 ⟨some 17, .move (.tmp 0), none, false, [], false⟩,
 ⟨some 18, .move (.tmp 5), none, false, [], false⟩,
 ⟨some 19, .indexAddr 29 (.tmp 17) (.tmp 18), none, false, [], false⟩,
 ⟨some 20, .fieldAddr 46 (.tmp 19) 1, none, false, [], false⟩,
 ⟨some 21, .load 44 (.tmp 20), none, false, [], false⟩,
 ⟨some 22, .move (.tmp 1), none, false, [], false⟩,
 ⟨some 23, .move (.tmp 5), none, false, [], false⟩,
 ⟨some 24, .indexAddr 29 (.tmp 22) (.tmp 23), none, false, [], false⟩,
 ⟨some 25, .fieldAddr 46 (.tmp 24) 1, none, false, [], false⟩,
 ⟨some 26, .load 44 (.tmp 25), none, false, [], false⟩,
 ⟨some 27, .binOp .eql 44 (.tmp 21) (.tmp 26) 44, none, false, [], false⟩,
 ⟨some 28, .move (.tmp 27), none, false, [], false⟩,
 ⟨some 29, .move (.tmp 0), some (some 28, true), false, [], false⟩,
 ⟨some 30, .move (.tmp 5), some (some 28, true), false, [], false⟩,
 ⟨some 31, .indexAddr 29 (.tmp 29) (.tmp 30), some (some 28, true), false, [], false⟩,
 ⟨some 32, .fieldAddr 46 (.tmp 31) 0, some (some 28, true), false, [], false⟩,
 ⟨some 33, .load 26 (.tmp 32), some (some 28, true), false, [], false⟩,
 ⟨some 34, .move (.tmp 1), some (some 28, true), false, [], false⟩,
 ⟨some 35, .move (.tmp 5), some (some 28, true), false, [], false⟩,
 ⟨some 36, .indexAddr 29 (.tmp 34) (.tmp 35), some (some 28, true), false, [], false⟩,
 ⟨some 37, .fieldAddr 46 (.tmp 36) 0, some (some 28, true), false, [], false⟩,
 ⟨some 38, .load 26 (.tmp 37), some (some 28, true), false, [], false⟩,
 ⟨some 39, .call ⟨.value (.func 35), #[.tmp 33, .tmp 38], #[26, 26]⟩, some (some 28, true), false, [true, true], false⟩,
 ⟨some 40, .pick (.tmp 28) (.tmp 39) (.const (.bool false)), none, false, [], false⟩,
 ⟨some 41, .unOp .not 4 (.tmp 40), none, false, [], false⟩])
 (.cond (.tmp 41)
 (.seq
 (.reg false [
 ⟨some 4, .assign (.const (.bool false)), none, false, [], false⟩])
 .ret)
 .skip)))
 (.reg false [
 ⟨some 15, .move (.tmp 5), none, false, [], false⟩,
 ⟨some 16, .binOp .add 3 (.tmp 15) (.const (.int .i64 1)) 3, none, false, [], false⟩,
 ⟨some 5, .assign (.tmp 16), none, false, [], false⟩]))))))
 (.seq
 (.reg false [
 ⟨some 4, .assign (.const (.bool true)), none, false, [], false⟩])
 .ret))))
noncomputable def fi43 : FI := ⟨c43, 42, [.tmp 4], .plain⟩
noncomputable def c48 : XC :=
 (.seq
 (.reg false [
 ⟨some 2, .assign (.const (.slice none 0 0)), none, false, [], false⟩])
 (.seq
 (.seq
 (.reg false [
 ⟨some 3, .move (.tmp 0), none, false, [], false⟩,
 ⟨some 4, .binOp .eql 22 (.tmp 3) (.const (.slice none 0 0)) 22, none, false, [], false⟩])
 (.cond (.tmp 4)
 (.seq
 (.reg false [
 ⟨some 2, .assign (.const (.slice none 0 0)), none, false, [], false⟩])
 .ret)
 .skip))
 (.seq
 (.reg false [
 ⟨some 5, .buildSlice 22 0 #[], none, false, [], false⟩,
 ⟨some 6, .move (.tmp 0), none, false, [], false⟩,
 ⟨some 7, .call ⟨.builtin .append, #[.tmp 5, .tmp 6], #[22, 22]⟩, none, false, [], false⟩,
 ⟨some 2, .assign (.tmp 7), none, false, [], false⟩])
 .ret)))
noncomputable def fi48 : FI := ⟨c48, 8, [.tmp 2], .plain⟩
noncomputable def c49 : XC :=
 (.seq
 (.reg false [
 ⟨some 2, .assign (.const (.slice none 0 0)), none, false, [], false⟩])
 (.seq
 (.seq
 (.reg false [
 ⟨some 3, .move (.tmp 0), none, false, [], false⟩,
 ⟨some 4, .binOp .eql 29 (.tmp 3) (.const (.slice none 0 0)) 29, none, false, [], false⟩])
 (.cond (.tmp 4)
 (.seq
 (.reg false [
 ⟨some 2, .assign (.const (.slice none 0 0)), none, false, [], false⟩])
 .ret)
 .skip))
 (.seq
 (.reg false [
 ⟨some 5, .buildSlice 29 0 #[], none, false, [], false⟩,
 ⟨some 6, .move (.tmp 0), none, false, [], false⟩,
 ⟨some 7, .call ⟨.builtin .append, #[.tmp 5, .tmp 6], #[29, 29]⟩, none, false, [], false⟩,
 ⟨some 2, .assign (.tmp 7), none, false, [], false⟩])
 .ret)))
noncomputable def fi49 : FI := ⟨c49, 8, [.tmp 2], .plain⟩
noncomputable def c50 : XC :=
 (.seq
 (.reg false [
 ⟨some 2, .assign (.const (.slice none 0 0)), none, false, [], false⟩])
 (.seq
 (.seq
 (.reg false [
 ⟨some 3, .move (.tmp 0), none, false, [], false⟩,
 ⟨some 4, .binOp .eql 26 (.tmp 3) (.const (.slice none 0 0)) 26, none, false, [], false⟩])
 (.cond (.tmp 4)
 (.seq
 (.reg false [
 ⟨some 2, .assign (.const (.slice none 0 0)), none, false, [], false⟩])
 .ret)
 .skip))
 (.seq
 (.reg false [
 ⟨some 5, .buildSlice 26 0 #[], none, false, [], false⟩,
 ⟨some 6, .move (.tmp 0), none, false, [], false⟩,
 ⟨some 7, .call ⟨.builtin .append, #[.tmp 5, .tmp 6], #[26, 26]⟩, none, false, [], false⟩,
 ⟨some 2, .assign (.tmp 7), none, false, [], false⟩])
 .ret)))
noncomputable def fi50 : FI := ⟨c50, 8, [.tmp 2], .plain⟩
noncomputable def c51 : XC :=
 (.seq
 (.reg false [
 ⟨some 4, .box 31 (.tmp 1), none, false, [], false⟩])
 (.seq
 (.reg false [
 ⟨some 15, .move (.tmp 2), none, false, [], false⟩,
 ⟨some 16, .call ⟨.builtin .len, #[.tmp 15], #[26]⟩, none, false, [], false⟩,
 ⟨some 17, .move (.const (.int .i64 0)), none, false, [], false⟩])
 (.block 0
 (.loop
 (.seq
 (.reg false [
 ⟨some 18, .binOp .lss 3 (.tmp 17) (.tmp 16) 3, none, false, [], false⟩])
 (.seq
 (.cond (.tmp 18)
 .skip
 (.exit 0))
 (.seq
 (.block 1
 (.seq
 (.reg false [
 ⟨some 19, .move (.tmp 17), none, false, [], false⟩,
 ⟨some 6, .assign (.tmp 19), none, false, [], false⟩])
 (.seq
 (.reg false [
 ⟨some 20, .move (.tmp 2), none, false, [], false⟩,
 ⟨some 21, .move (.tmp 6), none, false, [], false⟩,
 ⟨some 22, .indexAddr 26 (.tmp 20) (.tmp 21), none, false, [], false⟩,
 ⟨some 23, .load 24 (.tmp 22), none, false, [], false⟩,
 ⟨some 7, .alloc 24, none, false, [], false⟩,
 ⟨none, .store 24 (.tmp 7) (.tmp 23), none, false, [], false⟩])
 (.seq
 (.reg false [
 ⟨some 25, .load 31 (.tmp 4), none, false, [], false⟩,
 ⟨some 26, .load 24 (.tmp 7), none, false, [], false⟩,
 ⟨some 27, .call ⟨.value (.func 83), #[.tmp 25, .tmp 26], #[31, 24]⟩, none, false, [], false⟩,
 ⟨some 24, .move (.tmp 27), none, false, [], false⟩,
 ⟨some 28, .extract (.tmp 24) 0, none, false, [], false⟩,
 ⟨some 29, .extract (.tmp 24) 1, none, false, [], false⟩,
 ⟨some 8, .alloc 123, none, false, [], false⟩,
 ⟨none, .store 123 (.tmp 8) (.tmp 28), none, false, [], false⟩,
 ⟨some 9, .assign (.tmp 29), none, false, [], false⟩])
 (.seq
 (.seq
 (.reg false [
 ⟨some 31, .move (.tmp 0), none, false, [], false⟩,
 ⟨some 32, .load 123 (.tmp 8), none, false, [], false⟩,
 ⟨some 33, .call ⟨.value (.func 84), #[.tmp 31, .tmp 32], #[86, 123]⟩, none, false, [], false⟩,
 ⟨some 30, .move (.tmp 33), none, false, [], false⟩,
 ⟨some 34, .extract (.tmp 30) 0, none, false, [], false⟩,
 ⟨some 35, .extract (.tmp 30) 1, none, false, [], false⟩,
 ⟨some 10, .assign (.tmp 34), none, false, [], false⟩,
 ⟨some 11, .assign (.tmp 35), none, false, [], false⟩])
 (.seq
 (.reg false [
 ⟨some 36, .move (.tmp 9), none, false, [], false⟩,
 ⟨some 37, .move (.tmp 36), none, false, [], false⟩,
 ⟨some 38, .move (.tmp 11), some (some 37, true), false, [], false⟩,
 ⟨some 39, .pick (.tmp 37) (.tmp 38) (.const (.bool false)), none, false, [], false⟩])
 (.cond (.tmp 39)
 (.seq
 (.reg false [
 ⟨some 41, .move (.tmp 0), none, false, [], false⟩,
 ⟨some 42, .fieldAddr 24 (.tmp 7) 2, none, false, [], false⟩,
 ⟨some 43, .load 3 (.tmp 42), none, false, [], false⟩,
 ⟨some 44, .lookup 86 (.tmp 41) (.tmp 43) true, none, false, [], false⟩,
 ⟨some 40, .move (.tmp 44), none, false, [], false⟩,
 ⟨some 45, .extract (.tmp 40) 0, none, false, [], false⟩,
 ⟨some 46, .extract (.tmp 40) 1, none, false, [], false⟩,
 ⟨some 12, .alloc 123, none, false, [], false⟩,
 ⟨none, .store 123 (.tmp 12) (.tmp 45), none, false, [], false⟩,
 ⟨some 13, .assign (.tmp 46), none, false, [], false⟩])
 (.seq
 (.reg false [
 ⟨some 47, .move (.tmp 13), none, false, [], false⟩,
 ⟨some 48, .unOp .not 4 (.tmp 47), none, false, [], false⟩,
 ⟨some 49, .move (.tmp 48), none, false, [], false⟩,
 ⟨some 50, .load 123 (.tmp 12), some (some 49, false), false, [], false⟩,
 ⟨some 51, .load 123 (.tmp 8), some (some 49, false), false, [], false⟩,
 ⟨some 52, .binOp .neq 123 (.tmp 50) (.tmp 51) 123, some (some 49, false), false, [], false⟩,
 ⟨some 53, .pick (.tmp 49) (.const (.bool true)) (.tmp 52), none, false, [], false⟩])
 (.cond (.tmp 53)
 (.reg false [
 ⟨some 54, .move (.tmp 2), none, false, [], false⟩,
 ⟨some 55, .move (.tmp 6), none, false, [], false⟩,
 ⟨some 56, .fieldAddr 24 (.tmp 7) 2, none, false, [], false⟩,
 ⟨some 57, .load 3 (.tmp 56), none, false, [], false⟩,
 ⟨some 58, .move (.tmp 10), none, false, [], false⟩,
 ⟨some 59, .build 24 #[(0, .const (.int .i64 2)), (2, .tmp 57), (3, .tmp 58)], none, false, [], false⟩,
 ⟨some 60, .indexAddr 26 (.tmp 54) (.tmp 55), none, false, [], false⟩,
 ⟨none, .store 24 (.tmp 60) (.tmp 59), none, false, [], false⟩])
 .skip)))
 .skip)))
 (.seq
 (.reg false [
 ⟨some 61, .load 24 (.tmp 7), none, false, [], false⟩,
 ⟨some 62, .call ⟨.value (.func 76), #[.tmp 61], #[24]⟩, none, false, [], false⟩,
 ⟨some 14, .alloc 3, none, false, [], false⟩,
 ⟨none, .store 3 (.tmp 14) (.tmp 62), none, false, [], false⟩])
 (.seq
 (.seq
 (.reg false [
 ⟨some 63, .load 3 (.tmp 14), none, false, [], false⟩,
 ⟨some 64, .binOp .lss 3 (.tmp 63) (.const (.int .i64 0)) 3, none, false, [], false⟩])
 (.cond (.tmp 64)
 (.exit 1)
 .skip))
 (.seq
 (.reg false [
 ⟨some 65, .move (.tmp 0), none, false, [], false⟩,
 ⟨some 66, .makeFunc (.func 86) #[] #[.tmp 14], none, false, [], false⟩,
 ⟨some 67, .call ⟨.value (.func 85), #[.tmp 65, .tmp 66], #[86, 129]⟩, none, false, [], false⟩])
 (.seq
 (.reg false [
 ⟨some 68, .move (.tmp 9), none, false, [], false⟩,
 ⟨some 69, .move (.tmp 68), none, false, [], false⟩,
 ⟨some 70, .load 123 (.tmp 8), some (some 69, true), false, [], false⟩,
 ⟨some 71, .load 3 (.tmp 14), some (some 69, true), false, [], false⟩,
 ⟨some 72, .call ⟨.value (.func 87), #[.tmp 70, .tmp 71], #[123, 3]⟩, some (some 69, true), false, [], false⟩,
 ⟨some 73, .unOp .not 4 (.tmp 72), some (some 69, true), false, [], false⟩,
 ⟨some 74, .pick (.tmp 69) (.tmp 73) (.const (.bool false)), none, false, [], false⟩])
 (.cond (.tmp 74)
 (.reg false [
 ⟨some 75, .move (.tmp 0), none, false, [], false⟩,
 ⟨some 76, .load 3 (.tmp 14), none, false, [], false⟩,
 ⟨some 77, .load 123 (.tmp 8), none, false, [], false⟩,
 ⟨none, .mapUpdate 86 (.tmp 75) (.tmp 76) (.tmp 77), none, false, [], false⟩])
 .skip))))))))))
 (.reg false [
 ⟨some 78, .binOp .add 3 (.tmp 17) (.const (.int .i64 1)) 3, none, false, [], false⟩,
 ⟨some 17, .move (.tmp 78), none, false, [], false⟩]))))))))
noncomputable def fi51 : FI := ⟨c51, 79, [], .plain⟩
noncomputable def c52 : XC :=
 (.seq
 (.reg false [
 ⟨some 1, .box 36 (.tmp 0), none, false, [], false⟩,
 ⟨some 2, .assign (.const (.bool false)), none, false, [], false⟩])
 (.seq
 (.seq
 (.reg false [
 ⟨some 9, .fieldAddr 36 (.tmp 1) 0, none, false, [], false⟩,
 ⟨some 10, .load 34 (.tmp 9), none, false, [], false⟩,
 ⟨some 11, .call ⟨.builtin .len, #[.tmp 10], #[34]⟩, none, false, [], false⟩,
 ⟨some 12, .binOp .gtr 3 (.tmp 11) (.const (.int .i64 20)) 3, none, false, [], false⟩,
 ⟨some 13, .move (.tmp 12), none, false, [], false⟩,
 ⟨some 14, .fieldAddr 36 (.tmp 1) 1, some (some 13, false), false, [], false⟩,
 ⟨some 15, .load 33 (.tmp 14), some (some 13, false), false, [], false⟩,
 ⟨some 16, .call ⟨.builtin .len, #[.tmp 15], #[33]⟩, some (some 13, false), false, [], false⟩,
 ⟨some 17, .binOp .gtr 3 (.tmp 16) (.const (.int .i64 12)) 3, some (some 13, false), false, [], false⟩,
 ⟨some 18, .pick (.tmp 13) (.const (.bool true)) (.tmp 17), none, false, [], false⟩])
 (.cond (.tmp 18)
 (.seq
 (.reg false [
 ⟨some 2, .assign (.const (.bool true)), none, false, [], false⟩])
 .ret)
 .skip))
 (.seq
 (.reg false [
 ⟨some 3, .assign (.const (.int .i64 0)), none, false, [], false⟩])
 (.seq
 (.seq
 (.reg false [
 ⟨some 4, .assign (.const (.int .i64 0)), none, false, [], false⟩])
 (.block 0
 (.loop
 (.seq
 (.seq
 (.reg false [
 ⟨some 19, .move (.tmp 4), none, false, [], false⟩,
 ⟨some 20, .fieldAddr 36 (.tmp 1) 0, none, false, [], false⟩,
 ⟨some 21, .load 34 (.tmp 20), none, false, [], false⟩,
 ⟨some 22, .call ⟨.builtin .len, #[.tmp 21], #[34]⟩, none, false, [], false⟩,
 ⟨some 23, .binOp .lss 3 (.tmp 19) (.tmp 22) 3, none, false, [], false⟩])
 (.cond (.tmp 23)
 .skip
 (.exit 0)))
 (.seq
 (.block 1
 (.seq
 (.reg false [
 ⟨some 26, .fieldAddr 36 (.tmp 1) 0, none, false, [], false⟩,
 ⟨some 27, .load 34 (.tmp 26), none, false, [], false⟩,
 ⟨some 28, .move (.tmp 4), none, false, [], false⟩,
 ⟨some 29, .indexAddr 34 (.tmp 27) (.tmp 28), none, false, [], false⟩,
 ⟨some 30, .fieldAddr 93 (.tmp 29) 2, none, false, [], false⟩,
 ⟨some 31, .load 3 (.tmp 30), none, false, [], false⟩,
 ⟨some 32, .binOp .gtr 3 (.tmp 31) (.const (.int .i64 1024)) 3, none, false, [], false⟩])
 (.cond (.tmp 32)
 (.seq
 (.reg false [
 ⟨some 2, .assign (.const (.bool true)), none, false, [], false⟩])
 .ret)
 .skip)))
 (.reg false [
 ⟨some 24, .move (.tmp 4), none, false, [], false⟩,
 ⟨some 25, .binOp .add 3 (.tmp 24) (.const (.int .i64 1)) 3, none, false, [], false⟩,
 ⟨some 4, .assign (.tmp 25), none, false, [], false⟩]))))))
 (.seq
 (.seq
 (.reg false [
 ⟨some 5, .assign (.const (.int .i64 0)), none, false, [], false⟩])
 (.block 2
 (.loop
 (.seq
 (.seq
 (.reg false [
 ⟨some 33, .move (.tmp 5), none, false, [], false⟩,
 ⟨some 34, .fieldAddr 36 (.tmp 1) 1, none, false, [], false⟩,
 ⟨some 35, .load 33 (.tmp 34), none, false, [], false⟩,
 ⟨some 36, .call ⟨.builtin .len, #[.tmp 35], #[33]⟩, none, false, [], false⟩,
 ⟨some 37, .binOp .lss 3 (.tmp 33) (.tmp 36) 3, none, false, [], false⟩])
 (.cond (.tmp 37)
 .skip
 (.exit 2)))
 (.seq
 (.block 3
 (.seq
 (.reg false [
 ⟨some 40, .fieldAddr 36 (.tmp 1) 1, none, false, [], false⟩,
 ⟨some 41, .load 33 (.tmp 40), none, false, [], false⟩,
 ⟨some 42, .move (.tmp 5), none, false, [], false⟩,
 ⟨some 43, .indexAddr 33 (.tmp 41) (.tmp 42), none, false, [], false⟩,
 ⟨some 44, .load 31 (.tmp 43), none, false, [], false⟩,
 ⟨some 6, .alloc 31, none, false, [], false⟩,
 ⟨none, .store 31 (.tmp 6) (.tmp 44), none, false, [], false⟩])
 (.seq
 (.reg false [
 ⟨some 45, .move (.tmp 3), none, false, [], false⟩,
 ⟨some 46, .fieldAddr 31 (.tmp 6) 3, none, false, [], false⟩,
 ⟨some 47, .load 22 (.tmp 46), none, false, [], false⟩,
 ⟨some 48, .call ⟨.builtin .len, #[.tmp 47], #[22]⟩, none, false, [], false⟩,
 ⟨some 49, .binOp .add 3 (.tmp 45) (.tmp 48) 3, none, false, [], false⟩,
 ⟨some 50, .fieldAddr 31 (.tmp 6) 4, none, false, [], false⟩,
 ⟨some 51, .load 29 (.tmp 50), none, false, [], false⟩,
 ⟨some 52, .call ⟨.builtin .len, #[.tmp 51], #[29]⟩, none, false, [], false⟩,
 ⟨some 53, .binOp .add 3 (.tmp 49) (.tmp 52) 3, none, false, [], false⟩,
 ⟨some 3, .assign (.tmp 53), none, false, [], false⟩])
 (.seq
 (.seq
 (.reg false [
 ⟨some 7, .assign (.const (.int .i64 0)), none, false, [], false⟩])
 (.block 4
 (.loop
 (.seq
 (.seq
 (.reg false [
 ⟨some 54, .move (.tmp 7), none, false, [], false⟩,
 ⟨some 55, .fieldAddr 31 (.tmp 6) 4, none, false, [], false⟩,
 ⟨some 56, .load 29 (.tmp 55), none, false, [], false⟩,
 ⟨some 57, .call ⟨.builtin .len, #[.tmp 56], #[29]⟩, none, false, [], false⟩,
 ⟨some 58, .binOp .lss 3 (.tmp 54) (.tmp 57) 3, none, false, [], false⟩])
 (.cond (.tmp 58)
 .skip
 (.exit 4)))
 (.seq
 (.block 5
 (.seq
 (.reg false [
 ⟨some 61, .move (.tmp 3), none, false, [], false⟩,
 ⟨some 62, .fieldAddr 31 (.tmp 6) 4, none, false, [], false⟩,
 ⟨some 63, .load 29 (.tmp 62), none, false, [], false⟩,
 ⟨some 64, .move (.tmp 7), none, false, [], false⟩,
 ⟨some 65, .indexAddr 29 (.tmp 63) (.tmp 64), none, false, [], false⟩,
 ⟨some 66, .fieldAddr 46 (.tmp 65) 0, none, false, [], false⟩,
 ⟨some 67, .load 26 (.tmp 66), none, false, [], false⟩,
 ⟨some 68, .call ⟨.builtin .len, #[.tmp 67], #[26]⟩, none, false, [], false⟩,
 ⟨some 69, .binOp .add 3 (.tmp 61) (.tmp 68) 3, none, false, [], false⟩,
 ⟨some 3, .assign (.tmp 69), none, false, [], false⟩])
 (.seq
 (.reg false [
 ⟨some 8, .assign (.const (.int .i64 0)), none, false, [], false⟩])
 (.block 6
 (.loop
 (.seq
 (.seq
 (.reg false [
 ⟨some 70, .move (.tmp 8), none, false, [], false⟩,
 ⟨some 71, .fieldAddr 31 (.tmp 6) 4, none, false, [], false⟩,
 ⟨some 72, .load 29 (.tmp 71), none, false, [], false⟩,
 ⟨some 73, .move (.tmp 7), none, false, [], false⟩,
 ⟨some 74, .indexAddr 29 (.tmp 72) (.tmp 73), none, false, [], false⟩,
 ⟨some 75, .fieldAddr 46 (.tmp 74) 0, none, false, [], false⟩,
 ⟨some 76, .load 26 (.tmp 75), none, false, [], false⟩,
 ⟨some 77, .call ⟨.builtin .len, #[.tmp 76], #[26]⟩, none, false, [], false⟩,
 ⟨some 78, .binOp .lss 3 (.tmp 70) (.tmp 77) 3, none, false, [], false⟩])
 (.cond (.tmp 78)
 .skip
 (.exit 6)))
 (.seq
 (.block 7
 (.reg false [
 ⟨some 81, .move (.tmp 3), none, false, [], false⟩,
 ⟨some 82, .fieldAddr 31 (.tmp 6) 4, none, false, [], false⟩,
 ⟨some 83, .load 29 (.tmp 82), none, false, [], false⟩,
 ⟨some 84, .move (.tmp 7), none, false, [], false⟩,
 ⟨some 85, .indexAddr 29 (.tmp 83) (.tmp 84), none, false, [], false⟩,
 ⟨some 86, .fieldAddr 46 (.tmp 85) 0, none, false, [], false⟩,
 ⟨some 87, .load 26 (.tmp 86), none, false, [], false⟩,
 ⟨some 88, .move (.tmp 8), none, false, [], false⟩,
 ⟨some 89, .indexAddr 26 (.tmp 87) (.tmp 88), none, false, [], false⟩,
 ⟨some 90, .fieldAddr 24 (.tmp 89) 7, none, false, [], false⟩,
 ⟨some 91, .load 22 (.tmp 90), none, false, [], false⟩,
 ⟨some 92, .call ⟨.builtin .len, #[.tmp 91], #[22]⟩, none, false, [], false⟩,
 ⟨some 93, .binOp .add 3 (.tmp 81) (.tmp 92) 3, none, false, [], false⟩,
 ⟨some 3, .assign (.tmp 93), none, false, [], false⟩]))
 (.reg false [
 ⟨some 79, .move (.tmp 8), none, false, [], false⟩,
 ⟨some 80, .binOp .add 3 (.tmp 79) (.const (.int .i64 1)) 3, none, false, [], false⟩,
 ⟨some 8, .assign (.tmp 80), none, false, [], false⟩]))))))))
 (.reg false [
 ⟨some 59, .move (.tmp 7), none, false, [], false⟩,
 ⟨some 60, .binOp .add 3 (.tmp 59) (.const (.int .i64 1)) 3, none, false, [], false⟩,
 ⟨some 7, .assign (.tmp 60), none, false, [], false⟩]))))))
 (.seq
 (.reg false [
 ⟨some 94, .move (.tmp 3), none, false, [], false⟩,
 ⟨some 95, .binOp .gtr 3 (.tmp 94) (.const (.int .i64 3000)) 3, none, false, [], false⟩])
 (.cond (.tmp 95)
 (.seq
 (.reg false [
 ⟨some 2, .assign (.const (.bool true)), none, false, [], false⟩])
 .ret)
 .skip))))))
 (.reg false [
 ⟨some 38, .move (.tmp 5), none, false, [], false⟩,
 ⟨some 39, .binOp .add 3 (.tmp 38) (.const (.int .i64 1)) 3, none, false, [], false⟩,
 ⟨some 5, .assign (.tmp 39), none, false, [], false⟩]))))))
 (.seq
 (.reg false [
 ⟨some 2, .assign (.const (.bool false)), none, false, [], false⟩])
 .ret))))))
noncomputable def fi52 : FI := ⟨c52, 96, [.tmp 2], .plain⟩
noncomputable def c53 : XC :=
 (.seq
 (.reg false [
 ⟨some 2, .assign (.const (.slice none 0 0)), none, false, [], false⟩])
 (.seq
 (.reg false [
 ⟨some 3, .assign (.const (.slice none 0 0)), none, false, [], false⟩])
 (.seq
 (.seq
 (.reg false [
 ⟨some 4, .assign (.const (.int .i64 0)), none, false, [], false⟩])
 (.block 0
 (.loop
 (.seq
 (.seq
 (.reg false [
 ⟨some 5, .move (.tmp 4), none, false, [], false⟩,
 ⟨some 6, .move (.tmp 0), none, false, [], false⟩,
 ⟨some 7, .call ⟨.builtin .len, #[.tmp 6], #[22]⟩, none, false, [], false⟩,
 ⟨some 8, .binOp .lss 3 (.tmp 5) (.tmp 7) 3, none, false, [], false⟩])
 (.cond (.tmp 8)
 .skip
 (.exit 0)))
 (.seq
 (.block 1
 (.reg false [
 ⟨some 11, .move (.tmp 3), none, false, [], false⟩,
 ⟨some 12, .move (.tmp 0), none, false, [], false⟩,
 ⟨some 13, .move (.tmp 4), none, false, [], false⟩,
 ⟨some 14, .indexAddr 22 (.tmp 12) (.tmp 13), none, false, [], false⟩,
 ⟨some 15, .load 3 (.tmp 14), none, false, [], false⟩,
 ⟨some 16, .buildSlice 22 1 #[(0, .tmp 15)], none, false, [], false⟩,
 ⟨some 17, .call ⟨.builtin .append, #[.tmp 11, .tmp 16], #[22, 22]⟩, none, false, [], false⟩,
 ⟨some 3, .assign (.tmp 17), none, false, [], false⟩]))
 (.reg false [
 ⟨some 9, .move (.tmp 4), none, false, [], false⟩,
 ⟨some 10, .binOp .add 3 (.tmp 9) (.const (.int .i64 1)) 3, none, false, [], false⟩,
 ⟨some 4, .assign (.tmp 10), none, false, [], false⟩]))))))
 (.seq
 (.reg false [
 ⟨some 18, .move (.tmp 3), none, false, [], false⟩,
 ⟨some 2, .assign (.tmp 18), none, false, [], false⟩])
 .ret))))
noncomputable def fi53 : FI := ⟨c53, 19, [.tmp 2], .plain⟩
noncomputable def c54 : XC :=
 (.seq
 (.reg false [
 ⟨some 2, .assign (.const (.slice none 0 0)), none, false, [], false⟩])
 (.seq
 (.reg false [
 ⟨some 3, .assign (.const (.slice none 0 0)), none, false, [], false⟩])
 (.seq
 (.seq
 (.reg false [
 ⟨some 4, .assign (.const (.int .i64 0)), none, false, [], false⟩])
 (.block 0
 (.loop
 (.seq
 (.seq
 (.reg false [
 ⟨some 5, .move (.tmp 4), none, false, [], false⟩,
 ⟨some 6, .move (.tmp 0), none, false, [], false⟩,
 ⟨some 7, .call ⟨.builtin .len, #[.tmp 6], #[29]⟩, none, false, [], false⟩,
 ⟨some 8, .binOp .lss 3 (.tmp 5) (.tmp 7) 3, none, false, [], false⟩])
 (.cond (.tmp 8)
 .skip
 (.exit 0)))
 (.seq
 (.block 1
 (.reg true [
 ⟨some 12, .move (.tmp 0), none, false, [], false⟩,
 ⟨some 13, .move (.tmp 4), none, false, [], false⟩,
 ⟨some 14, .indexAddr 29 (.tmp 12) (.tmp 13), none, false, [], false⟩,
 ⟨some 15, .fieldAddr 46 (.tmp 14) 0, none, false, [], false⟩,
 ⟨some 16, .load 26 (.tmp 15), none, false, [], false⟩,
 ⟨some 17, .call ⟨.value (.func 88), #[.tmp 16], #[26]⟩, none, true, [false, false, false, false, false, true, true, false, true, true], false⟩,
 ⟨some 18, .move (.tmp 0), none, false, [], false⟩,
 ⟨some 19, .move (.tmp 4), none, false, [], false⟩,
 ⟨some 20, .indexAddr 29 (.tmp 18) (.tmp 19), none, false, [], false⟩,
 ⟨some 21, .fieldAddr 46 (.tmp 20) 1, none, false, [], false⟩,
 ⟨some 22, .load 44 (.tmp 21), none, false, [], true⟩,
 ⟨some 23, .build 46 #[(0, .tmp 17), (1, .tmp 22)], none, false, [], false⟩,
 ⟨some 24, .buildSlice 29 1 #[(0, .tmp 23)], none, false, [], false⟩,
 ⟨some 11, .move (.tmp 3), none, false, [], false⟩,
 ⟨some 25, .call ⟨.builtin .append, #[.tmp 11, .tmp 24], #[29, 29]⟩, none, false, [true], false⟩,
 ⟨some 3, .assign (.tmp 25), none, false, [], false⟩]))
 (.reg false [
 ⟨some 9, .move (.tmp 4), none, false, [], false⟩,
 ⟨some 10, .binOp .add 3 (.tmp 9) (.const (.int .i64 1)) 3, none, false, [], false⟩,
 ⟨some 4, .assign (.tmp 10), none, false, [], false⟩]))))))
 (.seq
 (.reg false [
 ⟨some 26, .move (.tmp 3), none, false, [], false⟩,
 ⟨some 2, .assign (.tmp 26), none, false, [], false⟩])
 .ret))))
noncomputable def fi54 : FI := ⟨c54, 27, [.tmp 2], .plain⟩
noncomputable def c55 : XC :=
 (.seq
 (.reg false [
 ⟨some 2, .box 31 (.tmp 0), none, false, [], false⟩,
 ⟨some 4, .assign (.const (.slice none 0 0)), none, false, [], false⟩])
 (.seq
 (.reg false [
 ⟨some 14, .fieldAddr 31 (.tmp 2) 3, none, false, [], false⟩,
 ⟨some 15, .load 22 (.tmp 14), none, false, [], false⟩,
 ⟨some 16, .call ⟨.builtin .len, #[.tmp 15], #[22]⟩, none, false, [], false⟩,
 ⟨some 17, .makeSlice 130 (.tmp 16) (.tmp 16), none, false, [], false⟩,
 ⟨some 5, .assign (.tmp 17), none, false, [], false⟩])
 (.seq
 (.reg false [
 ⟨some 6, .assign (.const (.slice none 0 0)), none, false, [], false⟩])
 (.seq
 (.seq
 (.reg false [
 ⟨some 7, .assign (.const (.int .i64 0)), none, false, [], false⟩])
 (.block 0
 (.loop
 (.seq
 (.seq
 (.reg false [
 ⟨some 18, .move (.tmp 7), none, false, [], false⟩,
 ⟨some 19, .move (.tmp 1), none, false, [], false⟩,
 ⟨some 20, .call ⟨.builtin .len, #[.tmp 19], #[26]⟩, none, false, [], false⟩,
 ⟨some 21, .binOp .lss 3 (.tmp 18) (.tmp 20) 3, none, false, [], false⟩])
 (.cond (.tmp 21)
 .skip
 (.exit 0)))
 (.seq
 (.block 1
 (.seq
 (.reg false [
 ⟨some 24, .move (.tmp 1), none, false, [], false⟩,
 ⟨some 25, .move (.tmp 7), none, false, [], false⟩,
 ⟨some 26, .indexAddr 26 (.tmp 24) (.tmp 25), none, false, [], false⟩,
 ⟨some 27, .load 24 (.tmp 26), none, false, [], false⟩,
 ⟨some 28, .call ⟨.value (.func 89), #[.tmp 27], #[24]⟩, none, false, [], false⟩,
 ⟨some 8, .alloc 24, none, false, [], false⟩,
 ⟨none, .store 24 (.tmp 8) (.tmp 28), none, false, [], false⟩])
 (.seq
 (.reg false [
 ⟨some 29, .load 31 (.tmp 2), none, false, [], false⟩,
 ⟨some 30, .load 24 (.tmp 8), none, false, [], false⟩,
 ⟨some 31, .call ⟨.value (.func 90), #[.tmp 29, .tmp 30], #[31, 24]⟩, none, false, [], false⟩,
 ⟨some 9, .alloc 133, none, false, [], false⟩,
 ⟨none, .store 133 (.tmp 9) (.tmp 31), none, false, [], false⟩])
 (.seq
 (.reg false [
 ⟨some 32, .load 24 (.tmp 8), none, false, [], false⟩,
 ⟨some 33, .call ⟨.value (.func 91), #[.tmp 32], #[24]⟩, none, false, [], false⟩,
 ⟨some 10, .assign (.tmp 33), none, false, [], false⟩])
 (.seq
 (.reg false [
 ⟨some 11, .assign (.const (.int .i64 (-1))), none, false, [], false⟩])
 (.seq
 (.seq
 (.reg false [
 ⟨some 34, .move (.tmp 5), none, false, [], false⟩,
 ⟨some 35, .call ⟨.builtin .len, #[.tmp 34], #[130]⟩, none, false, [], false⟩,
 ⟨some 36, .binOp .sub 3 (.tmp 35) (.const (.int .i64 1)) 3, none, false, [], false⟩,
 ⟨some 12, .assign (.tmp 36), none, false, [], false⟩])
 (.block 2
 (.loop
 (.seq
 (.seq
 (.reg false [
 ⟨some 37, .move (.tmp 12), none, false, [], false⟩,
 ⟨some 38, .binOp .geq 3 (.tmp 37) (.const (.int .i64 0)) 3, none, false, [], false⟩])
 (.cond (.tmp 38)
 .skip
 (.exit 2)))
 (.seq
 (.block 3
 (.seq
 (.reg true [
 ⟨some 41, .fieldAddr 133 (.tmp 9) 0, none, false, [], false⟩,
 ⟨some 42, .load 4 (.tmp 41), none, false, [], false⟩,
 ⟨some 43, .move (.tmp 42), none, false, [], false⟩,
 ⟨some 44, .move (.tmp 5), some (some 43, true), false, [], false⟩,
 ⟨some 45, .move (.tmp 12), some (some 43, true), false, [], false⟩,
 ⟨some 46, .indexAddr 130 (.tmp 44) (.tmp 45), some (some 43, true), false, [], false⟩,
 ⟨some 47, .load 133 (.tmp 46), some (some 43, true), false, [], false⟩,
 ⟨some 48, .load 133 (.tmp 9), some (some 43, true), false, [], false⟩,
 ⟨some 49, .binOp .eql 133 (.tmp 47) (.tmp 48) 133, some (some 43, true), false, [], false⟩,
 ⟨some 50, .pick (.tmp 43) (.tmp 49) (.const (.bool false)), none, false, [], false⟩])
 (.cond (.tmp 50)
 (.reg false [
 ⟨some 51, .move (.tmp 12), none, false, [], false⟩,
 ⟨some 11, .assign (.tmp 51), none, false, [], false⟩])
 .skip)))
 (.reg false [
 ⟨some 39, .move (.tmp 12), none, false, [], false⟩,
 ⟨some 40, .binOp .sub 3 (.tmp 39) (.const (.int .i64 1)) 3, none, false, [], false⟩,
 ⟨some 12, .assign (.tmp 40), none, false, [], false⟩]))))))
 (.seq
 (.seq
 (.reg true [
 ⟨some 52, .fieldAddr 133 (.tmp 9) 0, none, false, [], false⟩,
 ⟨some 53, .load 4 (.tmp 52), none, false, [], false⟩,
 ⟨some 54, .move (.tmp 53), none, false, [], false⟩,
 ⟨some 55, .move (.tmp 11), some (some 54, true), false, [], false⟩,
 ⟨some 56, .binOp .geq 3 (.tmp 55) (.const (.int .i64 0)) 3, some (some 54, true), false, [], false⟩,
 ⟨some 57, .pick (.tmp 54) (.tmp 56) (.const (.bool false)), none, false, [], false⟩,
 ⟨some 58, .move (.tmp 57), none, false, [], false⟩,
 ⟨some 59, .move (.tmp 5), some (some 58, true), false, [], false⟩,
 ⟨some 60, .fieldAddr 24 (.tmp 8) 2, some (some 58, true), false, [], false⟩,
 ⟨some 61, .load 3 (.tmp 60), some (some 58, true), false, [], false⟩,
 ⟨some 62, .indexAddr 130 (.tmp 59) (.tmp 61), some (some 58, true), false, [], false⟩,
 ⟨some 63, .load 133 (.tmp 62), some (some 58, true), false, [], false⟩,
 ⟨some 64, .load 133 (.tmp 9), some (some 58, true), false, [], false⟩,
 ⟨some 65, .binOp .neq 133 (.tmp 63) (.tmp 64) 133, some (some 58, true), false, [], false⟩,
 ⟨some 66, .pick (.tmp 58) (.tmp 65) (.const (.bool false)), none, false, [], false⟩])
 (.cond (.tmp 66)
 (.reg false [
 ⟨some 67, .fieldAddr 24 (.tmp 8) 2, none, false, [], false⟩,
 ⟨some 68, .load 3 (.tmp 67), none, false, [], false⟩,
 ⟨some 69, .move (.tmp 11), none, false, [], false⟩,
 ⟨some 70, .build 24 #[(0, .const (.int .i64 2)), (2, .tmp 68), (3, .tmp 69)], none, false, [], false⟩,
 ⟨none, .store 24 (.tmp 8) (.tmp 70), none, false, [], false⟩])
 .skip))
 (.seq
 (.reg false [
 ⟨some 71, .move (.tmp 6), none, false, [], false⟩,
 ⟨some 72, .load 24 (.tmp 8), none, false, [], false⟩,
 ⟨some 73, .buildSlice 26 1 #[(0, .tmp 72)], none, false, [], false⟩,
 ⟨some 74, .call ⟨.builtin .append, #[.tmp 71, .tmp 73], #[26, 26]⟩, none, false, [], false⟩,
 ⟨some 6, .assign (.tmp 74), none, false, [], false⟩])
 (.seq
 (.seq
 (.reg false [
 ⟨some 75, .move (.tmp 10), none, false, [], false⟩,
 ⟨some 76, .binOp .lss 3 (.tmp 75) (.const (.int .i64 0)) 3, none, false, [], false⟩])
 (.cond (.tmp 76)
 (.exit 1)
 .skip))
 (.seq
 (.seq
 (.reg false [
 ⟨some 13, .assign (.const (.int .i64 0)), none, false, [], false⟩])
 (.block 4
 (.loop
 (.seq
 (.seq
 (.reg false [
 ⟨some 77, .move (.tmp 13), none, false, [], false⟩,
 ⟨some 78, .move (.tmp 5), none, false, [], false⟩,
 ⟨some 79, .call ⟨.builtin .len, #[.tmp 78], #[130]⟩, none, false, [], false⟩,
 ⟨some 80, .binOp .lss 3 (.tmp 77) (.tmp 79) 3, none, false, [], false⟩])
 (.cond (.tmp 80)
 .skip
 (.exit 4)))
 (.seq
 (.block 5
 (.seq
 (.reg false [
 ⟨some 83, .move (.tmp 13), none, false, [], false⟩,
 ⟨some 84, .move (.tmp 10), none, false, [], false⟩,
 ⟨some 85, .binOp .eql 3 (.tmp 83) (.tmp 84) 3, none, false, [], false⟩,
 ⟨some 86, .move (.tmp 85), none, false, [], false⟩,
 ⟨some 87, .move (.tmp 5), some (some 86, false), false, [], false⟩,
 ⟨some 88, .move (.tmp 13), some (some 86, false), false, [], false⟩,
 ⟨some 89, .indexAddr 130 (.tmp 87) (.tmp 88), some (some 86, false), false, [], false⟩,
 ⟨some 90, .load 133 (.tmp 89), some (some 86, false), false, [], false⟩,
 ⟨some 91, .move (.tmp 10), some (some 86, false), false, [], false⟩,
 ⟨some 92, .call ⟨.value (.func 92), #[.tmp 90, .tmp 91], #[133, 3]⟩, some (some 86, false), false, [], false⟩,
 ⟨some 93, .pick (.tmp 86) (.const (.bool true)) (.tmp 92), none, false, [], false⟩])
 (.cond (.tmp 93)
 (.reg false [
 ⟨some 94, .move (.tmp 5), none, false, [], false⟩,
 ⟨some 95, .move (.tmp 13), none, false, [], false⟩,
 ⟨some 96, .build 133 #[], none, false, [], false⟩,
 ⟨some 97, .indexAddr 130 (.tmp 94) (.tmp 95), none, false, [], false⟩,
 ⟨none, .store 133 (.tmp 97) (.tmp 96), none, false, [], false⟩])
 .skip)))
 (.reg false [
 ⟨some 81, .move (.tmp 13), none, false, [], false⟩,
 ⟨some 82, .binOp .add 3 (.tmp 81) (.const (.int .i64 1)) 3, none, false, [], false⟩,
 ⟨some 13, .assign (.tmp 82), none, false, [], false⟩]))))))
 (.seq
 (.reg false [
 ⟨some 98, .fieldAddr 133 (.tmp 9) 0, none, false, [], false⟩,
 ⟨some 99, .load 4 (.tmp 98), none, false, [], false⟩,
 ⟨some 100, .move (.tmp 99), none, false, [], false⟩,
 ⟨some 101, .load 133 (.tmp 9), some (some 100, true), false, [], false⟩,
 ⟨some 102, .move (.tmp 10), some (some 100, true), false, [], false⟩,
 ⟨some 103, .call ⟨.value (.func 92), #[.tmp 101, .tmp 102], #[133, 3]⟩, some (some 100, true), false, [], false⟩,
 ⟨some 104, .unOp .not 4 (.tmp 103), some (some 100, true), false, [], false⟩,
 ⟨some 105, .pick (.tmp 100) (.tmp 104) (.const (.bool false)), none, false, [], false⟩])
 (.cond (.tmp 105)
 (.reg false [
 ⟨some 106, .move (.tmp 5), none, false, [], false⟩,
 ⟨some 107, .move (.tmp 10), none, false, [], false⟩,
 ⟨some 108, .load 133 (.tmp 9), none, false, [], false⟩,
 ⟨some 109, .indexAddr 130 (.tmp 106) (.tmp 107), none, false, [], false⟩,
 ⟨none, .store 133 (.tmp 109) (.tmp 108), none, false, [], false⟩])
 .skip))))))))))))
 (.reg false [
 ⟨some 22, .move (.tmp 7), none, false, [], false⟩,
 ⟨some 23, .binOp .add 3 (.tmp 22) (.const (.int .i64 1)) 3, none, false, [], false⟩,
 ⟨some 7, .assign (.tmp 23), none, false, [], false⟩]))))))
 (.seq
 (.reg false [
 ⟨some 110, .move (.tmp 6), none, false, [], false⟩,
 ⟨some 4, .assign (.tmp 110), none, false, [], false⟩])
 .ret)))))
noncomputable def fi55 : FI := ⟨c55, 111, [.tmp 4], .plain⟩
noncomputable def c56 : XC :=
 (.seq
 (.reg false [
 ⟨some 2, .assign (.const (.int .i64 0)), none, false, [], false⟩])
 (.block 0
 (.loop
 (.seq
 (.seq
 (.reg false [
 ⟨some 3, .move (.tmp 2), none, false, [], false⟩,
 ⟨some 4, .move (.tmp 0), none, false, [], false⟩,
 ⟨some 5, .call ⟨.builtin .len, #[.tmp 4], #[22]⟩, none, false, [], false⟩,
 ⟨some 6, .binOp .lss 3 (.tmp 3) (.tmp 5) 3, none, false, [], false⟩])
 (.cond (.tmp 6)
 .skip
 (.exit 0)))
 (.seq
 (.block 1
 (.reg false [
 ⟨some 9, .move (.tmp 0), none, false, [], false⟩,
 ⟨some 10, .move (.tmp 2), none, false, [], false⟩,
 ⟨some 11, .move (.tmp 2), none, false, [], false⟩,
 ⟨some 12, .binOp .add 3 (.tmp 11) (.const (.int .i64 7)) 3, none, false, [], false⟩,
 ⟨some 13, .call ⟨.value (.func 93), #[.tmp 12], #[3]⟩, none, false, [], false⟩,
 ⟨some 14, .indexAddr 22 (.tmp 9) (.tmp 10), none, false, [], false⟩,
 ⟨none, .store 3 (.tmp 14) (.tmp 13), none, false, [], false⟩]))
 (.reg false [
 ⟨some 7, .move (.tmp 2), none, false, [], false⟩,
 ⟨some 8, .binOp .add 3 (.tmp 7) (.const (.int .i64 1)) 3, none, false, [], false⟩,
 ⟨some 2, .assign (.tmp 8), none, false, [], false⟩]))))))
noncomputable def fi56 : FI := ⟨c56, 15, [], .plain⟩
noncomputable def c57 : XC :=
 (.seq
 (.reg false [
 ⟨some 2, .assign (.const (.int .i64 0)), none, false, [], false⟩])
 (.block 0
 (.loop
 (.seq
 (.seq
 (.reg false [
 ⟨some 3, .move (.tmp 2), none, false, [], false⟩,
 ⟨some 4, .move (.tmp 0), none, false, [], false⟩,
 ⟨some 5, .call ⟨.builtin .len, #[.tmp 4], #[26]⟩, none, false, [], false⟩,
 ⟨some 6, .binOp .lss 3 (.tmp 3) (.tmp 5) 3, none, false, [], false⟩])
 (.cond (.tmp 6)
 .skip
 (.exit 0)))
 (.seq
 (.block 1
 (.reg false [
 ⟨some 9, .move (.tmp 0), none, false, [], false⟩,
 ⟨some 10, .move (.tmp 2), none, false, [], false⟩,
 ⟨some 11, .move (.tmp 2), none, false, [], false⟩,
 ⟨some 12, .binOp .add 3 (.tmp 11) (.const (.int .i64 7)) 3, none, false, [], false⟩,
 ⟨some 13, .call ⟨.value (.func 94), #[.tmp 12], #[3]⟩, none, false, [], false⟩,
 ⟨some 14, .indexAddr 26 (.tmp 9) (.tmp 10), none, false, [], false⟩,
 ⟨none, .store 24 (.tmp 14) (.tmp 13), none, false, [], false⟩]))
 (.reg false [
 ⟨some 7, .move (.tmp 2), none, false, [], false⟩,
 ⟨some 8, .binOp .add 3 (.tmp 7) (.const (.int .i64 1)) 3, none, false, [], false⟩,
 ⟨some 2, .assign (.tmp 8), none, false, [], false⟩]))))))
noncomputable def fi57 : FI := ⟨c57, 15, [], .plain⟩
noncomputable def c58 : XC :=
 (.seq
 (.reg false [
 ⟨some 2, .assign (.const (.int .i64 0)), none, false, [], false⟩])
 (.block 0
 (.loop
 (.seq
 (.seq
 (.reg false [
 ⟨some 3, .move (.tmp 2), none, false, [], false⟩,
 ⟨some 4, .move (.tmp 0), none, false, [], false⟩,
 ⟨some 5, .call ⟨.builtin .len, #[.tmp 4], #[29]⟩, none, false, [], false⟩,
 ⟨some 6, .binOp .lss 3 (.tmp 3) (.tmp 5) 3, none, false, [], false⟩])
 (.cond (.tmp 6)
 .skip
 (.exit 0)))
 (.seq
 (.block 1
 (.reg false [
 ⟨some 9, .move (.tmp 0), none, false, [], false⟩,
 ⟨some 10, .move (.tmp 2), none, false, [], false⟩,
 ⟨some 11, .move (.tmp 2), none, false, [], false⟩,
 ⟨some 12, .binOp .add 3 (.tmp 11) (.const (.int .i64 7)) 3, none, false, [], false⟩,
 ⟨some 13, .call ⟨.value (.func 95), #[.tmp 12], #[3]⟩, none, false, [], false⟩,
 ⟨some 14, .indexAddr 29 (.tmp 9) (.tmp 10), none, false, [], false⟩,
 ⟨none, .store 46 (.tmp 14) (.tmp 13), none, false, [], false⟩]))
 (.reg false [
 ⟨some 7, .move (.tmp 2), none, false, [], false⟩,
 ⟨some 8, .binOp .add 3 (.tmp 7) (.const (.int .i64 1)) 3, none, false, [], false⟩,
 ⟨some 2, .assign (.tmp 8), none, false, [], false⟩]))))))
noncomputable def fi58 : FI := ⟨c58, 15, [], .plain⟩
noncomputable def c59 : XC :=
 (.seq
 (.reg false [
 ⟨some 1, .box 36 (.tmp 0), none, false, [], false⟩,
 ⟨some 2, .alloc 36, none, false, [], false⟩])
 (.seq
 (.reg true [
 ⟨some 3, .fieldAddr 36 (.tmp 1) 0, none, false, [], false⟩,
 ⟨some 4, .load 34 (.tmp 3), none, false, [], false⟩,
 ⟨some 5, .call ⟨.value (.func 96), #[.tmp 4], #[34]⟩, none, true, [false, false, true, true, true], false⟩,
 ⟨some 6, .fieldAddr 36 (.tmp 1) 1, none, false, [], false⟩,
 ⟨some 7, .load 33 (.tmp 6), none, false, [], true⟩,
 ⟨some 8, .call ⟨.value (.func 97), #[.tmp 7], #[33]⟩, none, false, [true, true], false⟩,
 ⟨some 9, .build 36 #[(0, .tmp 5), (1, .tmp 8)], none, false, [], false⟩,
 ⟨none, .store 36 (.tmp 2) (.tmp 9), none, false, [], false⟩])
 .ret))
noncomputable def fi59 : FI := ⟨c59, 10, [.cell 2 36], .plain⟩
noncomputable def c60 : XC :=
 (.seq
 (.reg false [
 ⟨some 2, .assign (.const (.bool false)), none, false, [], false⟩])
 (.seq
 (.reg false [
 ⟨some 3, .move (.tmp 0), none, false, [], false⟩,
 ⟨some 4, .binOp .eql 3 (.tmp 3) (.const (.int .i64 1)) 3, none, false, [], false⟩,
 ⟨some 5, .move (.tmp 4), none, false, [], false⟩,
 ⟨some 6, .move (.tmp 0), some (some 5, false), false, [], false⟩,
 ⟨some 7, .binOp .eql 3 (.tmp 6) (.const (.int .i64 2)) 3, some (some 5, false), false, [], false⟩,
 ⟨some 8, .pick (.tmp 5) (.const (.bool true)) (.tmp 7), none, false, [], false⟩,
 ⟨some 2, .assign (.tmp 8), none, false, [], false⟩])
 .ret))
noncomputable def fi60 : FI := ⟨c60, 9, [.tmp 2], .plain⟩
noncomputable def c61 : XC :=
 (.seq
 (.reg false [
 ⟨some 1, .box 96 (.tmp 0), none, false, [], false⟩,
 ⟨some 2, .assign (.const (.int .i64 0)), none, false, [], false⟩])
 (.seq
 (.reg false [
 ⟨some 10, .fieldAddr 96 (.tmp 1) 1, none, false, [], false⟩,
 ⟨some 11, .load 31 (.tmp 10), none, false, [], false⟩,
 ⟨some 3, .alloc 31, none, false, [], false⟩,
 ⟨none, .store 31 (.tmp 3) (.tmp 11), none, false, [], false⟩])
 (.seq
 (.block 0
 (.seq
 (.reg false [
 ⟨some 13, .fieldAddr 31 (.tmp 3) 4, none, false, [], false⟩,
 ⟨some 14, .load 29 (.tmp 13), none, false, [], false⟩,
 ⟨some 15, .call ⟨.builtin .len, #[.tmp 14], #[29]⟩, none, false, [], false⟩,
 ⟨some 16, .binOp .lss 3 (.tmp 15) (.const (.int .i64 1)) 3, none, false, [], false⟩,
 ⟨some 17, .move (.tmp 16), none, false, [], false⟩,
 ⟨some 18, .fieldAddr 31 (.tmp 3) 4, some (some 17, false), false, [], false⟩,
 ⟨some 19, .load 29 (.tmp 18), some (some 17, false), false, [], false⟩,
 ⟨some 20, .call ⟨.builtin .len, #[.tmp 19], #[29]⟩, some (some 17, false), false, [], false⟩,
 ⟨some 21, .binOp .gtr 3 (.tmp 20) (.const (.int .i64 400)) 3, some (some 17, false), false, [], false⟩,
 ⟨some 22, .pick (.tmp 17) (.const (.bool true)) (.tmp 21), none, false, [], false⟩,
 ⟨some 23, .move (.tmp 22), none, false, [], false⟩,
 ⟨some 24, .fieldAddr 31 (.tmp 3) 3, some (some 23, false), false, [], false⟩,
 ⟨some 25, .load 22 (.tmp 24), some (some 23, false), false, [], false⟩,
 ⟨some 26, .call ⟨.builtin .len, #[.tmp 25], #[22]⟩, some (some 23, false), false, [], false⟩,
 ⟨some 27, .binOp .gtr 3 (.tmp 26) (.const (.int .i64 4096)) 3, some (some 23, false), false, [], false⟩,
 ⟨some 28, .pick (.tmp 23) (.const (.bool true)) (.tmp 27), none, false, [], false⟩,
 ⟨some 12, .assign (.tmp 28), none, false, [], false⟩])
 (.cond (.tmp 12)
 (.seq
 (.reg false [
 ⟨some 2, .assign (.const (.int .i64 9)), none, false, [], false⟩])
 .ret)
 (.seq
 (.reg false [
 ⟨some 30, .fieldAddr 31 (.tmp 3) 2, none, false, [], false⟩,
 ⟨some 31, .load 3 (.tmp 30), none, false, [], false⟩,
 ⟨some 32, .binOp .lss 3 (.tmp 31) (.const (.int .i64 0)) 3, none, false, [], false⟩,
 ⟨some 33, .move (.tmp 32), none, false, [], false⟩,
 ⟨some 34, .fieldAddr 31 (.tmp 3) 2, some (some 33, false), false, [], false⟩,
 ⟨some 35, .load 3 (.tmp 34), some (some 33, false), false, [], false⟩,
 ⟨some 36, .fieldAddr 31 (.tmp 3) 3, some (some 33, false), false, [], false⟩,
 ⟨some 37, .load 22 (.tmp 36), some (some 33, false), false, [], false⟩,
 ⟨some 38, .call ⟨.builtin .len, #[.tmp 37], #[22]⟩, some (some 33, false), false, [], false⟩,
 ⟨some 39, .binOp .gtr 3 (.tmp 35) (.tmp 38) 3, some (some 33, false), false, [], false⟩,
 ⟨some 40, .pick (.tmp 33) (.const (.bool true)) (.tmp 39), none, false, [], false⟩,
 ⟨some 29, .assign (.tmp 40), none, false, [], false⟩])
 (.cond (.tmp 29)
 (.seq
 (.reg false [
 ⟨some 2, .assign (.const (.int .i64 11)), none, false, [], false⟩])
 .ret)
 (.seq
 (.reg false [
 ⟨some 42, .fieldAddr 31 (.tmp 3) 1, none, false, [], false⟩,
 ⟨some 43, .load 3 (.tmp 42), none, false, [], false⟩,
 ⟨some 44, .binOp .lss 3 (.tmp 43) (.const (.int .i64 0)) 3, none, false, [], false⟩,
 ⟨some 45, .move (.tmp 44), none, false, [], false⟩,
 ⟨some 46, .fieldAddr 31 (.tmp 3) 1, some (some 45, false), false, [], false⟩,
 ⟨some 47, .load 3 (.tmp 46), some (some 45, false), false, [], false⟩,
 ⟨some 48, .binOp .gtr 3 (.tmp 47) (.const (.int .i64 2)) 3, some (some 45, false), false, [], false⟩,
 ⟨some 49, .pick (.tmp 45) (.const (.bool true)) (.tmp 48), none, false, [], false⟩,
 ⟨some 50, .move (.tmp 49), none, false, [], false⟩,
 ⟨some 51, .fieldAddr 31 (.tmp 3) 3, some (some 50, false), false, [], false⟩,
 ⟨some 52, .load 22 (.tmp 51), some (some 50, false), false, [], false⟩,
 ⟨some 53, .call ⟨.value (.func 79), #[.tmp 52, .func 98], #[22, 94]⟩, some (some 50, false), false, [], false⟩,
 ⟨some 54, .pick (.tmp 50) (.const (.bool true)) (.tmp 53), none, false, [], false⟩,
 ⟨some 41, .assign (.tmp 54), none, false, [], false⟩])
 (.cond (.tmp 41)
 (.seq
 (.reg false [
 ⟨some 2, .assign (.const (.int .i64 6)), none, false, [], false⟩])
 .ret)
 .skip)))))))
 (.seq
 (.seq
 (.reg false [
 ⟨some 55, .fieldAddr 31 (.tmp 3) 4, none, false, [], false⟩,
 ⟨some 56, .load 29 (.tmp 55), none, false, [], false⟩,
 ⟨some 57, .call ⟨.builtin .len, #[.tmp 56], #[29]⟩, none, false, [], false⟩,
 ⟨some 58, .move (.const (.int .i64 0)), none, false, [], false⟩])
 (.block 1
 (.loop
 (.seq
 (.reg false [
 ⟨some 59, .binOp .lss 3 (.tmp 58) (.tmp 57) 3, none, false, [], false⟩])
 (.seq
 (.cond (.tmp 59)
 .skip
 (.exit 1))
 (.seq
 (.block 2
 (.seq
 (.reg false [
 ⟨some 60, .indexAddr 29 (.tmp 56) (.tmp 58), none, false, [], false⟩,
 ⟨some 61, .load 46 (.tmp 60), none, false, [], false⟩,
 ⟨some 5, .alloc 46, none, false, [], false⟩,
 ⟨none, .store 46 (.tmp 5) (.tmp 61), none, false, [], false⟩])
 (.seq
 (.seq
 (.reg false [
 ⟨some 62, .fieldAddr 46 (.tmp 5) 0, none, false, [], false⟩,
 ⟨some 63, .load 26 (.tmp 62), none, false, [], false⟩,
 ⟨some 64, .call ⟨.builtin .len, #[.tmp 63], #[26]⟩, none, false, [], false⟩,
 ⟨some 65, .move (.const (.int .i64 0)), none, false, [], false⟩])
 (.block 3
 (.loop
 (.seq
 (.reg false [
 ⟨some 66, .binOp .lss 3 (.tmp 65) (.tmp 64) 3, none, false, [], false⟩])
 (.seq
 (.cond (.tmp 66)
 .skip
 (.exit 3))
 (.seq
 (.block 4
 (.seq
 (.reg false [
 ⟨some 67, .indexAddr 26 (.tmp 63) (.tmp 65), none, false, [], false⟩,
 ⟨some 68, .load 24 (.tmp 67), none, false, [], false⟩,
 ⟨some 7, .alloc 24, none, false, [], false⟩,
 ⟨none, .store 24 (.tmp 7) (.tmp 68), none, false, [], false⟩])
 (.seq
 (.reg false [
 ⟨some 69, .load 96 (.tmp 1), none, false, [], false⟩,
 ⟨some 70, .load 24 (.tmp 7), none, false, [], false⟩,
 ⟨some 71, .call ⟨.value (.func 99), #[.tmp 69, .tmp 70], #[96, 24]⟩, none, false, [], false⟩,
 ⟨some 8, .assign (.tmp 71), none, false, [], false⟩])
 (.seq
 (.reg false [
 ⟨some 72, .move (.tmp 8), none, false, [], false⟩,
 ⟨some 73, .binOp .neq 57 (.tmp 72) (.const (.int .i64 0)) 57, none, false, [], false⟩])
 (.cond (.tmp 73)
 (.seq
 (.reg false [
 ⟨some 74, .move (.tmp 8), none, false, [], false⟩,
 ⟨some 2, .assign (.tmp 74), none, false, [], false⟩])
 .ret)
 .skip)))))
 (.reg false [
 ⟨some 75, .binOp .add 3 (.tmp 65) (.const (.int .i64 1)) 3, none, false, [], false⟩,
 ⟨some 65, .move (.tmp 75), none, false, [], false⟩])))))))
 (.seq
 (.reg false [
 ⟨some 76, .load 96 (.tmp 1), none, false, [], false⟩,
 ⟨some 77, .fieldAddr 46 (.tmp 5) 1, none, false, [], false⟩,
 ⟨some 78, .load 44 (.tmp 77), none, false, [], false⟩,
 ⟨some 79, .call ⟨.value (.func 100), #[.tmp 76, .tmp 78], #[96, 44]⟩, none, false, [], false⟩,
 ⟨some 9, .assign (.tmp 79), none, false, [], false⟩])
 (.seq
 (.reg false [
 ⟨some 80, .move (.tmp 9), none, false, [], false⟩,
 ⟨some 81, .binOp .neq 57 (.tmp 80) (.const (.int .i64 0)) 57, none, false, [], false⟩])
 (.cond (.tmp 81)
 (.seq
 (.reg false [
 ⟨some 82, .move (.tmp 9), none, false, [], false⟩,
 ⟨some 2, .assign (.tmp 82), none, false, [], false⟩])
 .ret)
 .skip))))))
 (.reg false [
 ⟨some 83, .binOp .add 3 (.tmp 58) (.const (.int .i64 1)) 3, none, false, [], false⟩,
 ⟨some 58, .move (.tmp 83), none, false, [], false⟩])))))))
 (.seq
 (.reg false [
 ⟨some 2, .assign (.const (.int .i64 0)), none, false, [], false⟩])
 .ret)))))
noncomputable def fi61 : FI := ⟨c61, 84, [.tmp 2], .plain⟩
noncomputable def c62 : XC :=
 (.seq
 (.reg false [
 ⟨some 1, .box 36 (.tmp 0), none, false, [], false⟩,
 ⟨some 2, .assign (.const (.int .i64 0)), none, false, [], false⟩])
 (.seq
 (.reg false [
 ⟨some 3, .fieldAddr 36 (.tmp 1) 1, none, false, [], false⟩,
 ⟨some 4, .load 33 (.tmp 3), none, false, [], false⟩,
 ⟨some 5, .call ⟨.value (.func 101), #[.tmp 4, .func 102], #[33, 144]⟩, none, false, [], false⟩,
 ⟨some 2, .assign (.tmp 5), none, false, [], false⟩])
 .ret))
noncomputable def fi62 : FI := ⟨c62, 6, [.tmp 2], .plain⟩
noncomputable def c63 : XC :=
 (.seq
 (.reg false [
 ⟨some 4, .call ⟨.builtin .recover, #[], #[]⟩, none, false, [], false⟩,
 ⟨some 2, .assign (.tmp 4), none, false, [], false⟩])
 (.seq
 (.reg false [
 ⟨some 5, .move (.tmp 2), none, false, [], false⟩,
 ⟨some 6, .binOp .neq 20 (.tmp 5) (.const .nilIface) 20, none, false, [], false⟩])
 (.cond (.tmp 6)
 (.seq
 (.reg false [
 ⟨some 7, .move (.tmp 2), none, false, [], false⟩,
 ⟨some 8, .typeAssert (.tmp 7) 20 102 false, none, false, [], false⟩,
 ⟨some 3, .alloc 102, none, false, [], false⟩,
 ⟨none, .store 102 (.tmp 3) (.tmp 8), none, false, [], false⟩])
 (.reg true [
 ⟨some 9, .load 98 (.tmp 0), none, false, [], false⟩,
 ⟨some 10, .nilCheck (.tmp 9), none, false, [], false⟩,
 ⟨some 11, .fieldAddr 100 (.tmp 10) 4, none, false, [], false⟩,
 ⟨some 12, .fieldAddr 61 (.tmp 11) 0, none, false, [], false⟩,
 ⟨some 13, .load 22 (.tmp 12), none, false, [], false⟩,
 ⟨some 14, .fieldAddr 102 (.tmp 3) 0, none, false, [], false⟩,
 ⟨some 15, .load 3 (.tmp 14), none, false, [], false⟩,
 ⟨some 16, .fieldAddr 102 (.tmp 3) 1, none, false, [], false⟩,
 ⟨some 17, .load 3 (.tmp 16), none, false, [], false⟩,
 ⟨some 18, .build 61 #[(0, .tmp 13), (1, .tmp 15), (2, .tmp 17)], none, false, [], false⟩,
 ⟨none, .store 61 (.tmp 1) (.tmp 18), none, false, [], false⟩]))
 .skip)))
noncomputable def fi63 : FI := ⟨c63, 19, [], .rcv 4 2 (.seq
 (.reg false [
 ⟨some 5, .move (.tmp 2), none, false, [], false⟩,
 ⟨some 6, .binOp .neq 20 (.tmp 5) (.const .nilIface) 20, none, false, [], false⟩])
 (.cond (.tmp 6)
 (.seq
 (.reg false [
 ⟨some 7, .move (.tmp 2), none, false, [], false⟩,
 ⟨some 8, .typeAssert (.tmp 7) 20 102 false, none, false, [], false⟩,
 ⟨some 3, .alloc 102, none, false, [], false⟩,
 ⟨none, .store 102 (.tmp 3) (.tmp 8), none, false, [], false⟩])
 (.reg true [
 ⟨some 9, .load 98 (.tmp 0), none, false, [], false⟩,
 ⟨some 10, .nilCheck (.tmp 9), none, false, [], false⟩,
 ⟨some 11, .fieldAddr 100 (.tmp 10) 4, none, false, [], false⟩,
 ⟨some 12, .fieldAddr 61 (.tmp 11) 0, none, false, [], false⟩,
 ⟨some 13, .load 22 (.tmp 12), none, false, [], false⟩,
 ⟨some 14, .fieldAddr 102 (.tmp 3) 0, none, false, [], false⟩,
 ⟨some 15, .load 3 (.tmp 14), none, false, [], false⟩,
 ⟨some 16, .fieldAddr 102 (.tmp 3) 1, none, false, [], false⟩,
 ⟨some 17, .load 3 (.tmp 16), none, false, [], false⟩,
 ⟨some 18, .build 61 #[(0, .tmp 13), (1, .tmp 15), (2, .tmp 17)], none, false, [], false⟩,
 ⟨none, .store 61 (.tmp 1) (.tmp 18), none, false, [], false⟩]))
 .skip))⟩
noncomputable def c64 : XC :=
 (.seq
 (.reg false [
 ⟨some 6, .assign (.const (.int .i64 0)), none, false, [], false⟩])
 (.seq
 (.seq
 (.reg false [
 ⟨some 13, .move (.tmp 0), none, false, [], false⟩,
 ⟨some 14, .nilCheck (.tmp 13), none, false, [], false⟩,
 ⟨some 15, .fieldAddr 100 (.tmp 14) 5, none, false, [], false⟩,
 ⟨some 16, .load 3 (.tmp 15), none, false, [], false⟩,
 ⟨some 17, .binOp .geq 3 (.tmp 16) (.const (.int .i64 32)) 3, none, false, [], false⟩])
 (.cond (.tmp 17)
 (.reg false [
 ⟨some 18, .call ⟨.value (.func 103), #[.const (.int .i64 4)], #[3]⟩, none, false, [], false⟩])
 .skip))
 (.seq
 (.reg false [
 ⟨some 19, .move (.tmp 0), none, false, [], false⟩,
 ⟨some 20, .nilCheck (.tmp 19), none, false, [], false⟩,
 ⟨some 21, .fieldAddr 100 (.tmp 20) 5, none, false, [], false⟩,
 ⟨some 22, .load 3 (.tmp 21), none, false, [], false⟩,
 ⟨some 23, .binOp .add 3 (.tmp 22) (.const (.int .i64 1)) 3, none, false, [], false⟩,
 ⟨some 24, .nilCheck (.tmp 19), none, false, [], false⟩,
 ⟨some 25, .fieldAddr 100 (.tmp 24) 5, none, false, [], false⟩,
 ⟨none, .store 3 (.tmp 25) (.tmp 23), none, false, [], false⟩])
 (.seq
 (.reg false [
 ⟨some 26, .move (.tmp 0), none, false, [], false⟩,
 ⟨some 27, .nilCheck (.tmp 26), none, false, [], false⟩,
 ⟨some 28, .fieldAddr 100 (.tmp 27) 0, none, false, [], false⟩,
 ⟨some 29, .fieldAddr 36 (.tmp 28) 1, none, false, [], false⟩,
 ⟨some 30, .load 33 (.tmp 29), none, false, [], false⟩,
 ⟨some 31, .move (.tmp 1), none, false, [], false⟩,
 ⟨some 32, .indexAddr 33 (.tmp 30) (.tmp 31), none, false, [], false⟩,
 ⟨some 33, .load 31 (.tmp 32), none, false, [], false⟩,
 ⟨some 7, .alloc 31, none, false, [], false⟩,
 ⟨none, .store 31 (.tmp 7) (.tmp 33), none, false, [], false⟩])
 (.seq
 (.reg false [
 ⟨some 34, .fieldAddr 31 (.tmp 7) 3, none, false, [], false⟩,
 ⟨some 35, .load 22 (.tmp 34), none, false, [], false⟩,
 ⟨some 36, .call ⟨.builtin .len, #[.tmp 35], #[22]⟩, none, false, [], false⟩,
 ⟨some 37, .makeSlice 22 (.tmp 36) (.tmp 36), none, false, [], false⟩,
 ⟨some 8, .assign (.tmp 37), none, false, [], false⟩])
 (.seq
 (.reg false [
 ⟨some 38, .move (.tmp 8), none, false, [], false⟩,
 ⟨some 39, .move (.tmp 2), none, false, [], false⟩,
 ⟨some 40, .call ⟨.builtin .copy, #[.tmp 38, .tmp 39], #[22, 22]⟩, none, false, [], false⟩])
 (.seq
 (.reg false [
 ⟨some 9, .assign (.const (.int .i64 0)), none, false, [], false⟩])
 (.block 0
 (.loop
 (.block 1
 (.seq
 (.seq
 (.reg false [
 ⟨some 41, .fieldAddr 31 (.tmp 7) 4, none, false, [], false⟩,
 ⟨some 42, .load 29 (.tmp 41), none, false, [], false⟩,
 ⟨some 43, .move (.tmp 9), none, false, [], false⟩,
 ⟨some 44, .indexAddr 29 (.tmp 42) (.tmp 43), none, false, [], false⟩,
 ⟨some 45, .fieldAddr 46 (.tmp 44) 0, none, false, [], false⟩,
 ⟨some 46, .load 26 (.tmp 45), none, false, [], false⟩,
 ⟨some 47, .call ⟨.builtin .len, #[.tmp 46], #[26]⟩, none, false, [], false⟩,
 ⟨some 48, .move (.const (.int .i64 0)), none, false, [], false⟩])
 (.block 2
 (.loop
 (.seq
 (.reg false [
 ⟨some 49, .binOp .lss 3 (.tmp 48) (.tmp 47) 3, none, false, [], false⟩])
 (.seq
 (.cond (.tmp 49)
 .skip
 (.exit 2))
 (.seq
 (.block 3
 (.seq
 (.reg false [
 ⟨some 50, .indexAddr 26 (.tmp 46) (.tmp 48), none, false, [], false⟩,
 ⟨some 51, .load 24 (.tmp 50), none, false, [], false⟩,
 ⟨some 11, .alloc 24, none, false, [], false⟩,
 ⟨none, .store 24 (.tmp 11) (.tmp 51), none, false, [], false⟩])
 (.seq
 (.reg false [
 ⟨some 52, .move (.tmp 0), none, false, [], false⟩,
 ⟨some 53, .call ⟨.value (.func 104), #[.tmp 52], #[98]⟩, none, false, [], false⟩])
 (.seq
 (.reg false [
 ⟨some 54, .fieldAddr 24 (.tmp 11) 0, none, false, [], false⟩,
 ⟨some 55, .load 3 (.tmp 54), none, false, [], false⟩,
 ⟨some 56, .binOp .eql 3 (.tmp 55) (.const (.int .i64 9)) 3, none, false, [], false⟩])
 (.cond (.tmp 56)
 (.reg false [
 ⟨some 57, .move (.tmp 0), none, false, [], false⟩,
 ⟨some 58, .load 24 (.tmp 11), none, false, [], false⟩,
 ⟨some 59, .move (.tmp 8), none, false, [], false⟩,
 ⟨some 60, .call ⟨.value (.func 105), #[.tmp 57, .tmp 58, .tmp 59], #[98, 24, 22]⟩, none, false, [], false⟩])
 (.reg false [
 ⟨some 61, .move (.tmp 0), none, false, [], false⟩,
 ⟨some 62, .load 24 (.tmp 11), none, false, [], false⟩,
 ⟨some 63, .move (.tmp 8), none, false, [], false⟩,
 ⟨some 64, .call ⟨.value (.func 106), #[.tmp 61, .tmp 62, .tmp 63], #[98, 24, 22]⟩, none, false, [], false⟩]))))))
 (.reg false [
 ⟨some 65, .binOp .add 3 (.tmp 48) (.const (.int .i64 1)) 3, none, false, [], false⟩,
 ⟨some 48, .move (.tmp 65), none, false, [], false⟩])))))))
 (.seq
 (.reg false [
 ⟨some 66, .move (.tmp 0), none, false, [], false⟩,
 ⟨some 67, .call ⟨.value (.func 104), #[.tmp 66], #[98]⟩, none, false, [], false⟩])
 (.seq
 (.reg false [
 ⟨some 68, .fieldAddr 31 (.tmp 7) 4, none, false, [], false⟩,
 ⟨some 69, .load 29 (.tmp 68), none, false, [], false⟩,
 ⟨some 70, .move (.tmp 9), none, false, [], false⟩,
 ⟨some 71, .indexAddr 29 (.tmp 69) (.tmp 70), none, false, [], false⟩,
 ⟨some 72, .fieldAddr 46 (.tmp 71) 1, none, false, [], false⟩,
 ⟨some 73, .load 44 (.tmp 72), none, false, [], false⟩,
 ⟨some 12, .alloc 44, none, false, [], false⟩,
 ⟨none, .store 44 (.tmp 12) (.tmp 73), none, false, [], false⟩])
 (.block 4
 (.seq
 (.reg false [
 ⟨some 77, .fieldAddr 44 (.tmp 12) 0, none, false, [], false⟩,
 ⟨some 78, .load 3 (.tmp 77), none, false, [], false⟩,
 ⟨some 79, .binOp .eql 3 (.tmp 78) (.const (.int .i64 3)) 3, none, false, [], false⟩,
 ⟨some 76, .assign (.tmp 79), none, false, [], false⟩])
 (.cond (.tmp 76)
 (.seq
 (.reg false [
 ⟨some 80, .move (.tmp 0), none, false, [], false⟩,
 ⟨some 81, .nilCheck (.tmp 80), none, false, [], false⟩,
 ⟨some 82, .fieldAddr 100 (.tmp 81) 5, none, false, [], false⟩,
 ⟨some 83, .load 3 (.tmp 82), none, false, [], false⟩,
 ⟨some 84, .binOp .sub 3 (.tmp 83) (.const (.int .i64 1)) 3, none, false, [], false⟩,
 ⟨some 85, .nilCheck (.tmp 80), none, false, [], false⟩,
 ⟨some 86, .fieldAddr 100 (.tmp 85) 5, none, false, [], false⟩,
 ⟨none, .store 3 (.tmp 86) (.tmp 84), none, false, [], false⟩])
 (.seq
 (.seq
 (.reg false [
 ⟨some 87, .fieldAddr 44 (.tmp 12) 1, none, false, [], false⟩,
 ⟨some 88, .load 3 (.tmp 87), none, false, [], false⟩,
 ⟨some 89, .binOp .lss 3 (.tmp 88) (.const (.int .i64 0)) 3, none, false, [], false⟩])
 (.cond (.tmp 89)
 (.seq
 (.reg false [
 ⟨some 6, .assign (.const (.int .i64 0)), none, false, [], false⟩])
 .ret)
 .skip))
 (.seq
 (.reg false [
 ⟨some 90, .move (.tmp 8), none, false, [], false⟩,
 ⟨some 91, .fieldAddr 44 (.tmp 12) 1, none, false, [], false⟩,
 ⟨some 92, .load 3 (.tmp 91), none, false, [], false⟩,
 ⟨some 93, .indexAddr 22 (.tmp 90) (.tmp 92), none, false, [], false⟩,
 ⟨some 94, .load 3 (.tmp 93), none, false, [], false⟩,
 ⟨some 6, .assign (.tmp 94), none, false, [], false⟩])
 .ret)))
 (.seq
 (.reg false [
 ⟨some 96, .fieldAddr 44 (.tmp 12) 0, none, false, [], false⟩,
 ⟨some 97, .load 3 (.tmp 96), none, false, [], false⟩,
 ⟨some 98, .binOp .eql 3 (.tmp 97) (.const (.int .i64 2)) 3, none, false, [], false⟩,
 ⟨some 99, .move (.tmp 98), none, false, [], false⟩,
 ⟨some 100, .move (.tmp 8), some (some 99, true), false, [], false⟩,
 ⟨some 101, .fieldAddr 44 (.tmp 12) 1, some (some 99, true), false, [], false⟩,
 ⟨some 102, .load 3 (.tmp 101), some (some 99, true), false, [], false⟩,
 ⟨some 103, .indexAddr 22 (.tmp 100) (.tmp 102), some (some 99, true), false, [], false⟩,
 ⟨some 104, .load 3 (.tmp 103), some (some 99, true), false, [], false⟩,
 ⟨some 105, .binOp .eql 3 (.tmp 104) (.const (.int .i64 0)) 3, some (some 99, true), false, [], false⟩,
 ⟨some 106, .pick (.tmp 99) (.tmp 105) (.const (.bool false)), none, false, [], false⟩,
 ⟨some 95, .assign (.tmp 106), none, false, [], false⟩])
 (.cond (.tmp 95)
 (.reg false [
 ⟨some 107, .fieldAddr 44 (.tmp 12) 3, none, false, [], false⟩,
 ⟨some 108, .load 3 (.tmp 107), none, false, [], false⟩,
 ⟨some 9, .assign (.tmp 108), none, false, [], false⟩])
 (.reg false [
 ⟨some 74, .fieldAddr 44 (.tmp 12) 2, none, false, [], false⟩,
 ⟨some 75, .load 3 (.tmp 74), none, false, [], false⟩,
 ⟨some 9, .assign (.tmp 75), none, false, [], false⟩])))))))))))))))))))
noncomputable def fi64 : FI := ⟨c64, 109, [.tmp 6], .plain⟩
noncomputable def c65 : XC :=
 (.seq
 (.reg false [
 ⟨some 2, .box 24 (.tmp 0), none, false, [], false⟩,
 ⟨some 3, .box 24 (.tmp 1), none, false, [], false⟩,
 ⟨some 4, .assign (.const (.bool false)), none, false, [], false⟩])
 (.seq
 (.reg false [
 ⟨some 5, .fieldAddr 24 (.tmp 2) 0, none, false, [], false⟩,
 ⟨some 6, .load 3 (.tmp 5), none, false, [], false⟩,
 ⟨some 7, .fieldAddr 24 (.tmp 3) 0, none, false, [], false⟩,
 ⟨some 8, .load 3 (.tmp 7), none, false, [], false⟩,
 ⟨some 9, .binOp .eql 3 (.tmp 6) (.tmp 8) 3, none, false, [], false⟩,
 ⟨some 10, .move (.tmp 9), none, false, [], false⟩,
 ⟨some 11, .fieldAddr 24 (.tmp 2) 1, some (some 10, true), false, [], false⟩,
 ⟨some 12, .load 3 (.tmp 11), some (some 10, true), false, [], false⟩,
 ⟨some 13, .fieldAddr 24 (.tmp 3) 1, some (some 10, true), false, [], false⟩,
 ⟨some 14, .load 3 (.tmp 13), some (some 10, true), false, [], false⟩,
 ⟨some 15, .binOp .eql 3 (.tmp 12) (.tmp 14) 3, some (some 10, true), false, [], false⟩,
 ⟨some 16, .pick (.tmp 10) (.tmp 15) (.const (.bool false)), none, false, [], false⟩,
 ⟨some 17, .move (.tmp 16), none, false, [], false⟩,
 ⟨some 18, .fieldAddr 24 (.tmp 2) 2, some (some 17, true), false, [], false⟩,
 ⟨some 19, .load 3 (.tmp 18), some (some 17, true), false, [], false⟩,
 ⟨some 20, .fieldAddr 24 (.tmp 3) 2, some (some 17, true), false, [], false⟩,
 ⟨some 21, .load 3 (.tmp 20), some (some 17, true), false, [], false⟩,
 ⟨some 22, .binOp .eql 3 (.tmp 19) (.tmp 21) 3, some (some 17, true), false, [], false⟩,
 ⟨some 23, .pick (.tmp 17) (.tmp 22) (.const (.bool false)), none, false, [], false⟩,
 ⟨some 24, .move (.tmp 23), none, false, [], false⟩,
 ⟨some 25, .fieldAddr 24 (.tmp 2) 3, some (some 24, true), false, [], false⟩,
 ⟨some 26, .load 3 (.tmp 25), some (some 24, true), false, [], false⟩,
 ⟨some 27, .fieldAddr 24 (.tmp 3) 3, some (some 24, true), false, [], false⟩,
 ⟨some 28, .load 3 (.tmp 27), some (some 24, true), false, [], false⟩,
 ⟨some 29, .binOp .eql 3 (.tmp 26) (.tmp 28) 3, some (some 24, true), false, [], false⟩,
 ⟨some 30, .pick (.tmp 24) (.tmp 29) (.const (.bool false)), none, false, [], false⟩,
 ⟨some 31, .move (.tmp 30), none, false, [], false⟩,
 ⟨some 32, .fieldAddr 24 (.tmp 2) 4, some (some 31, true), false, [], false⟩,
 ⟨some 33, .load 3 (.tmp 32), some (some 31, true), false, [], false⟩,
 ⟨some 34, .fieldAddr 24 (.tmp 3) 4, some (some 31, true), false, [], false⟩,
 ⟨some 35, .load 3 (.tmp 34), some (some 31, true), false, [], false⟩,
 ⟨some 36, .binOp .eql 3 (.tmp 33) (.tmp 35) 3, some (some 31, true), false, [], false⟩,
 ⟨some 37, .pick (.tmp 31) (.tmp 36) (.const (.bool false)), none, false, [], false⟩,
 ⟨some 38, .move (.tmp 37), none, false, [], false⟩,
 ⟨some 39, .fieldAddr 24 (.tmp 2) 5, some (some 38, true), false, [], false⟩,
 ⟨some 40, .load 3 (.tmp 39), some (some 38, true), false, [], false⟩,
 ⟨some 41, .fieldAddr 24 (.tmp 3) 5, some (some 38, true), false, [], false⟩,
 ⟨some 42, .load 3 (.tmp 41), some (some 38, true), false, [], false⟩,
 ⟨some 43, .binOp .eql 3 (.tmp 40) (.tmp 42) 3, some (some 38, true), false, [], false⟩,
 ⟨some 44, .pick (.tmp 38) (.tmp 43) (.const (.bool false)), none, false, [], false⟩,
 ⟨some 45, .move (.tmp 44), none, false, [], false⟩,
 ⟨some 46, .fieldAddr 24 (.tmp 2) 6, some (some 45, true), false, [], false⟩,
 ⟨some 47, .load 9 (.tmp 46), some (some 45, true), false, [], false⟩,
 ⟨some 48, .fieldAddr 24 (.tmp 3) 6, some (some 45, true), false, [], false⟩,
 ⟨some 49, .load 9 (.tmp 48), some (some 45, true), false, [], false⟩,
 ⟨some 50, .binOp .eql 9 (.tmp 47) (.tmp 49) 9, some (some 45, true), false, [], false⟩,
 ⟨some 51, .pick (.tmp 45) (.tmp 50) (.const (.bool false)), none, false, [], false⟩,
 ⟨some 52, .move (.tmp 51), none, false, [], false⟩,
 ⟨some 53, .fieldAddr 24 (.tmp 2) 7, some (some 52, true), false, [], false⟩,
 ⟨some 54, .load 22 (.tmp 53), some (some 52, true), false, [], false⟩,
 ⟨some 55, .fieldAddr 24 (.tmp 3) 7, some (some 52, true), false, [], false⟩,
 ⟨some 56, .load 22 (.tmp 55), some (some 52, true), false, [], false⟩,
 ⟨some 57, .call ⟨.value (.func 20), #[.tmp 54, .tmp 56], #[22, 22]⟩, some (some 52, true), false, [], false⟩,
 ⟨some 58, .pick (.tmp 52) (.tmp 57) (.const (.bool false)), none, false, [], false⟩,
 ⟨some 4, .assign (.tmp 58), none, false, [], false⟩])
 .ret))
noncomputable def fi65 : FI := ⟨c65, 59, [.tmp 4], .plain⟩
noncomputable def c76 : XC :=
 (.seq
 (.reg false [
 ⟨some 1, .box 24 (.tmp 0), none, false, [], false⟩,
 ⟨some 2, .assign (.const (.int .i64 0)), none, false, [], false⟩])
 (.seq
 (.seq
 (.reg false [
 ⟨some 3, .fieldAddr 24 (.tmp 1) 0, none, false, [], false⟩,
 ⟨some 4, .load 3 (.tmp 3), none, false, [], false⟩])
 (.block 0
 (.seq
 (.seq
 (.reg false [
 ⟨some 6, .binOp .eql 3 (.tmp 4) (.const (.int .i64 1)) 3, none, false, [], false⟩,
 ⟨some 5, .assign (.tmp 6), none, false, [], false⟩])
 (.cond (.tmp 5)
 .skip
 (.seq
 (.reg false [
 ⟨some 7, .binOp .eql 3 (.tmp 4) (.const (.int .i64 2)) 3, none, false, [], false⟩,
 ⟨some 5, .assign (.tmp 7), none, false, [], false⟩])
 (.cond (.tmp 5)
 .skip
 (.seq
 (.reg false [
 ⟨some 8, .binOp .eql 3 (.tmp 4) (.const (.int .i64 3)) 3, none, false, [], false⟩,
 ⟨some 5, .assign (.tmp 8), none, false, [], false⟩])
 (.cond (.tmp 5)
 .skip
 (.seq
 (.reg false [
 ⟨some 9, .binOp .eql 3 (.tmp 4) (.const (.int .i64 4)) 3, none, false, [], false⟩,
 ⟨some 5, .assign (.tmp 9), none, false, [], false⟩])
 (.cond (.tmp 5)
 .skip
 (.seq
 (.reg false [
 ⟨some 10, .binOp .eql 3 (.tmp 4) (.const (.int .i64 5)) 3, none, false, [], false⟩,
 ⟨some 5, .assign (.tmp 10), none, false, [], false⟩])
 (.cond (.tmp 5)
 .skip
 (.seq
 (.reg false [
 ⟨some 11, .binOp .eql 3 (.tmp 4) (.const (.int .i64 7)) 3, none, false, [], false⟩,
 ⟨some 5, .assign (.tmp 11), none, false, [], false⟩])
 (.cond (.tmp 5)
 .skip
 (.reg false [
 ⟨some 12, .binOp .eql 3 (.tmp 4) (.const (.int .i64 10)) 3, none, false, [], false⟩,
 ⟨some 5, .assign (.tmp 12), none, false, [], false⟩])))))))))))))
 (.cond (.tmp 5)
 (.seq
 (.reg false [
 ⟨some 13, .fieldAddr 24 (.tmp 1) 2, none, false, [], false⟩,
 ⟨some 14, .load 3 (.tmp 13), none, false, [], false⟩,
 ⟨some 2, .assign (.tmp 14), none, false, [], false⟩])
 .ret)
 (.seq
 (.reg false [
 ⟨some 16, .binOp .eql 3 (.tmp 4) (.const (.int .i64 9)) 3, none, false, [], false⟩,
 ⟨some 15, .assign (.tmp 16), none, false, [], false⟩])
 (.cond (.tmp 15)
 (.seq
 (.reg false [
 ⟨some 17, .fieldAddr 24 (.tmp 1) 2, none, false, [], false⟩,
 ⟨some 18, .load 3 (.tmp 17), none, false, [], false⟩,
 ⟨some 19, .call ⟨.builtin .max, #[.tmp 18, .const (.int .i64 (-1))], #[3, 3]⟩, none, false, [], false⟩,
 ⟨some 2, .assign (.tmp 19), none, false, [], false⟩])
 .ret)
 .skip))))))
 (.seq
 (.reg false [
 ⟨some 2, .assign (.const (.int .i64 (-1))), none, false, [], false⟩])
 .ret)))
noncomputable def fi76 : FI := ⟨c76, 20, [.tmp 2], .plain⟩
noncomputable def c79 : XC :=
 (.seq
 (.reg false [
 ⟨some 4, .assign (.const (.bool false)), none, false, [], false⟩])
 (.seq
 (.reg false [
 ⟨some 5, .move (.tmp 0), none, false, [], false⟩,
 ⟨some 6, .move (.tmp 1), none, false, [], false⟩,
 ⟨some 7, .call ⟨.value (.func 121), #[.tmp 5, .tmp 6], #[22, 94]⟩, none, false, [], false⟩,
 ⟨some 8, .binOp .geq 3 (.tmp 7) (.const (.int .i64 0)) 3, none, false, [], false⟩,
 ⟨some 4, .assign (.tmp 8), none, false, [], false⟩])
 .ret))
noncomputable def fi79 : FI := ⟨c79, 9, [.tmp 4], .plain⟩
noncomputable def c80 : XC :=
 (.seq
 (.reg false [
 ⟨some 1, .box 24 (.tmp 0), none, false, [], false⟩,
 ⟨some 2, .assign (.const (.slice none 0 0)), none, false, [], false⟩])
 (.seq
 (.seq
 (.reg false [
 ⟨some 3, .fieldAddr 24 (.tmp 1) 0, none, false, [], false⟩,
 ⟨some 4, .load 3 (.tmp 3), none, false, [], false⟩])
 (.block 0
 (.seq
 (.seq
 (.reg false [
 ⟨some 6, .binOp .eql 3 (.tmp 4) (.const (.int .i64 2)) 3, none, false, [], false⟩,
 ⟨some 5, .assign (.tmp 6), none, false, [], false⟩])
 (.cond (.tmp 5)
 .skip
 (.seq
 (.reg false [
 ⟨some 7, .binOp .eql 3 (.tmp 4) (.const (.int .i64 4)) 3, none, false, [], false⟩,
 ⟨some 5, .assign (.tmp 7), none, false, [], false⟩])
 (.cond (.tmp 5)
 .skip
 (.seq
 (.reg false [
 ⟨some 8, .binOp .eql 3 (.tmp 4) (.const (.int .i64 5)) 3, none, false, [], false⟩,
 ⟨some 5, .assign (.tmp 8), none, false, [], false⟩])
 (.cond (.tmp 5)
 .skip
 (.seq
 (.reg false [
 ⟨some 9, .binOp .eql 3 (.tmp 4) (.const (.int .i64 8)) 3, none, false, [], false⟩,
 ⟨some 5, .assign (.tmp 9), none, false, [], false⟩])
 (.cond (.tmp 5)
 .skip
 (.reg false [
 ⟨some 10, .binOp .eql 3 (.tmp 4) (.const (.int .i64 11)) 3, none, false, [], false⟩,
 ⟨some 5, .assign (.tmp 10), none, false, [], false⟩])))))))))
 (.cond (.tmp 5)
 (.seq
 (.reg false [
 ⟨some 11, .fieldAddr 24 (.tmp 1) 3, none, false, [], false⟩,
 ⟨some 12, .load 3 (.tmp 11), none, false, [], false⟩,
 ⟨some 13, .buildSlice 22 1 #[(0, .tmp 12)], none, false, [], false⟩,
 ⟨some 2, .assign (.tmp 13), none, false, [], false⟩])
 .ret)
 (.seq
 (.seq
 (.reg false [
 ⟨some 15, .binOp .eql 3 (.tmp 4) (.const (.int .i64 3)) 3, none, false, [], false⟩,
 ⟨some 14, .assign (.tmp 15), none, false, [], false⟩])
 (.cond (.tmp 14)
 .skip
 (.reg false [
 ⟨some 16, .binOp .eql 3 (.tmp 4) (.const (.int .i64 6)) 3, none, false, [], false⟩,
 ⟨some 14, .assign (.tmp 16), none, false, [], false⟩])))
 (.cond (.tmp 14)
 (.seq
 (.reg false [
 ⟨some 17, .fieldAddr 24 (.tmp 1) 3, none, false, [], false⟩,
 ⟨some 18, .load 3 (.tmp 17), none, false, [], false⟩,
 ⟨some 19, .fieldAddr 24 (.tmp 1) 4, none, false, [], false⟩,
 ⟨some 20, .load 3 (.tmp 19), none, false, [], false⟩,
 ⟨some 21, .buildSlice 22 2 #[(0, .tmp 18), (1, .tmp 20)], none, false, [], false⟩,
 ⟨some 2, .assign (.tmp 21), none, false, [], false⟩])
 .ret)
 (.seq
 (.reg false [
 ⟨some 23, .binOp .eql 3 (.tmp 4) (.const (.int .i64 9)) 3, none, false, [], false⟩,
 ⟨some 22, .assign (.tmp 23), none, false, [], false⟩])
 (.cond (.tmp 22)
 (.seq
 (.reg false [
 ⟨some 24, .fieldAddr 24 (.tmp 1) 7, none, false, [], false⟩,
 ⟨some 25, .load 22 (.tmp 24), none, false, [], false⟩,
 ⟨some 26, .call ⟨.value (.func 48), #[.tmp 25], #[22]⟩, none, false, [], false⟩,
 ⟨some 2, .assign (.tmp 26), none, false, [], false⟩])
 .ret)
 .skip))))))))
 (.seq
 (.reg false [
 ⟨some 2, .assign (.const (.slice none 0 0)), none, false, [], false⟩])
 .ret)))
noncomputable def fi80 : FI := ⟨c80, 27, [.tmp 2], .plain⟩
noncomputable def c83 : XC :=
 (.seq
 (.reg false [
 ⟨some 2, .box 31 (.tmp 0), none, false, [], false⟩,
 ⟨some 3, .box 24 (.tmp 1), none, false, [], false⟩,
 ⟨some 4, .alloc 123, none, false, [], false⟩,
 ⟨some 5, .assign (.const (.bool false)), none, false, [], false⟩])
 (.seq
 (.block 0
 (.seq
 (.reg false [
 ⟨some 7, .fieldAddr 24 (.tmp 3) 0, none, false, [], false⟩,
 ⟨some 8, .load 3 (.tmp 7), none, false, [], false⟩,
 ⟨some 9, .binOp .eql 3 (.tmp 8) (.const (.int .i64 1)) 3, none, false, [], false⟩,
 ⟨some 6, .assign (.tmp 9), none, false, [], false⟩])
 (.cond (.tmp 6)
 (.seq
 (.reg true [
 ⟨some 10, .fieldAddr 24 (.tmp 3) 0, none, false, [], false⟩,
 ⟨some 11, .load 3 (.tmp 10), none, false, [], false⟩,
 ⟨some 12, .fieldAddr 31 (.tmp 2) 3, none, false, [], false⟩,
 ⟨some 13, .load 22 (.tmp 12), none, false, [], false⟩,
 ⟨some 14, .fieldAddr 24 (.tmp 3) 2, none, false, [], false⟩,
 ⟨some 15, .load 3 (.tmp 14), none, false, [], false⟩,
 ⟨some 16, .indexAddr 22 (.tmp 13) (.tmp 15), none, false, [], false⟩,
 ⟨some 17, .load 3 (.tmp 16), none, false, [], false⟩,
 ⟨some 18, .fieldAddr 24 (.tmp 3) 5, none, false, [], false⟩,
 ⟨some 19, .load 3 (.tmp 18), none, false, [], false⟩,
 ⟨some 20, .build 123 #[(0, .tmp 11), (1, .tmp 17), (2, .tmp 19), (3, .const (.int .i64 (-1))), (4, .const (.int .i64 (-1)))], none, false, [], false⟩,
 ⟨none, .store 123 (.tmp 4) (.tmp 20), none, false, [true], false⟩,
 ⟨some 5, .assign (.const (.bool true)), none, false, [], false⟩])
 .ret)
 (.seq
 (.reg false [
 ⟨some 22, .fieldAddr 24 (.tmp 3) 0, none, false, [], false⟩,
 ⟨some 23, .load 3 (.tmp 22), none, false, [], false⟩,
 ⟨some 24, .binOp .eql 3 (.tmp 23) (.const (.int .i64 3)) 3, none, false, [], false⟩,
 ⟨some 25, .move (.tmp 24), none, false, [], false⟩,
 ⟨some 26, .fieldAddr 24 (.tmp 3) 6, some (some 25, true), false, [], false⟩,
 ⟨some 27, .load 9 (.tmp 26), some (some 25, true), false, [], false⟩,
 ⟨some 28, .binOp .neq 9 (.tmp 27) (.const (.string ⟨#[47]⟩)) 9, some (some 25, true), false, [], false⟩,
 ⟨some 29, .pick (.tmp 25) (.tmp 28) (.const (.bool false)), none, false, [], false⟩,
 ⟨some 30, .move (.tmp 29), none, false, [], false⟩,
 ⟨some 31, .fieldAddr 24 (.tmp 3) 6, some (some 30, true), false, [], false⟩,
 ⟨some 32, .load 9 (.tmp 31), some (some 30, true), false, [], false⟩,
 ⟨some 33, .binOp .neq 9 (.tmp 32) (.const (.string ⟨#[37]⟩)) 9, some (some 30, true), false, [], false⟩,
 ⟨some 34, .pick (.tmp 30) (.tmp 33) (.const (.bool false)), none, false, [], false⟩,
 ⟨some 21, .assign (.tmp 34), none, false, [], false⟩])
 (.cond (.tmp 21)
 (.seq
 (.reg false [
 ⟨some 35, .fieldAddr 24 (.tmp 3) 0, none, false, [], false⟩,
 ⟨some 36, .load 3 (.tmp 35), none, false, [], false⟩,
 ⟨some 37, .fieldAddr 24 (.tmp 3) 1, none, false, [], false⟩,
 ⟨some 38, .load 3 (.tmp 37), none, false, [], false⟩,
 ⟨some 39, .fieldAddr 24 (.tmp 3) 3, none, false, [], false⟩,
 ⟨some 40, .load 3 (.tmp 39), none, false, [], false⟩,
 ⟨some 41, .fieldAddr 24 (.tmp 3) 4, none, false, [], false⟩,
 ⟨some 42, .load 3 (.tmp 41), none, false, [], false⟩,
 ⟨some 43, .fieldAddr 24 (.tmp 3) 6, none, false, [], false⟩,
 ⟨some 44, .load 9 (.tmp 43), none, false, [], false⟩,
 ⟨some 45, .build 123 #[(0, .tmp 36), (1, .tmp 38), (3, .tmp 40), (4, .tmp 42), (5, .tmp 44)], none, false, [], false⟩,
 ⟨none, .store 123 (.tmp 4) (.tmp 45), none, false, [], false⟩,
 ⟨some 5, .assign (.const (.bool true)), none, false, [], false⟩])
 .ret)
 (.seq
 (.reg false [
 ⟨some 47, .fieldAddr 24 (.tmp 3) 0, none, false, [], false⟩,
 ⟨some 48, .load 3 (.tmp 47), none, false, [], false⟩,
 ⟨some 49, .binOp .eql 3 (.tmp 48) (.const (.int .i64 4)) 3, none, false, [], false⟩,
 ⟨some 46, .assign (.tmp 49), none, false, [], false⟩])
 (.cond (.tmp 46)
 (.seq
 (.reg false [
 ⟨some 50, .fieldAddr 24 (.tmp 3) 0, none, false, [], false⟩,
 ⟨some 51, .load 3 (.tmp 50), none, false, [], false⟩,
 ⟨some 52, .fieldAddr 24 (.tmp 3) 1, none, false, [], false⟩,
 ⟨some 53, .load 3 (.tmp 52), none, false, [], false⟩,
 ⟨some 54, .fieldAddr 24 (.tmp 3) 3, none, false, [], false⟩,
 ⟨some 55, .load 3 (.tmp 54), none, false, [], false⟩,
 ⟨some 56, .build 123 #[(0, .tmp 51), (1, .tmp 53), (3, .tmp 55), (4, .const (.int .i64 (-1)))], none, false, [], false⟩,
 ⟨none, .store 123 (.tmp 4) (.tmp 56), none, false, [], false⟩,
 ⟨some 5, .assign (.const (.bool true)), none, false, [], false⟩])
 .ret)
 .skip)))))))
 (.seq
 (.reg false [
 ⟨some 57, .build 123 #[], none, false, [], false⟩,
 ⟨none, .store 123 (.tmp 4) (.tmp 57), none, false, [], false⟩,
 ⟨some 5, .assign (.const (.bool false)), none, false, [], false⟩])
 .ret)))
noncomputable def fi83 : FI := ⟨c83, 58, [.cell 4 123, .tmp 5], .plain⟩
noncomputable def c84 : XC :=
 (.seq
 (.reg false [
 ⟨some 3, .box 123 (.tmp 1), none, false, [], false⟩,
 ⟨some 4, .assign (.const (.int .i64 0)), none, false, [], false⟩,
 ⟨some 5, .assign (.const (.bool false)), none, false, [], false⟩])
 (.seq
 (.seq
 (.reg false [
 ⟨some 8, .move (.tmp 0), none, false, [], false⟩,
 ⟨some 9, .call ⟨.value (.func 123), #[.tmp 8], #[86]⟩, none, false, [], false⟩,
 ⟨some 10, .call ⟨.value (.func 38), #[.tmp 9], #[73]⟩, none, false, [], false⟩,
 ⟨some 11, .call ⟨.builtin .len, #[.tmp 10], #[22]⟩, none, false, [], false⟩,
 ⟨some 12, .move (.const (.int .i64 0)), none, false, [], false⟩])
 (.block 0
 (.loop
 (.seq
 (.reg false [
 ⟨some 13, .binOp .lss 3 (.tmp 12) (.tmp 11) 3, none, false, [], false⟩])
 (.seq
 (.cond (.tmp 13)
 .skip
 (.exit 0))
 (.seq
 (.block 1
 (.seq
 (.reg false [
 ⟨some 14, .indexAddr 22 (.tmp 10) (.tmp 12), none, false, [], false⟩,
 ⟨some 15, .load 3 (.tmp 14), none, false, [], false⟩,
 ⟨some 7, .assign (.tmp 15), none, false, [], false⟩])
 (.seq
 (.reg false [
 ⟨some 16, .move (.tmp 0), none, false, [], false⟩,
 ⟨some 17, .move (.tmp 7), none, false, [], false⟩,
 ⟨some 18, .lookup 86 (.tmp 16) (.tmp 17) false, none, false, [], false⟩,
 ⟨some 19, .load 123 (.tmp 3), none, false, [], false⟩,
 ⟨some 20, .binOp .eql 123 (.tmp 18) (.tmp 19) 123, none, false, [], false⟩])
 (.cond (.tmp 20)
 (.seq
 (.reg false [
 ⟨some 21, .move (.tmp 7), none, false, [], false⟩,
 ⟨some 4, .assign (.tmp 21), none, false, [], false⟩,
 ⟨some 5, .assign (.const (.bool true)), none, false, [], false⟩])
 .ret)
 .skip))))
 (.reg false [
 ⟨some 22, .binOp .add 3 (.tmp 12) (.const (.int .i64 1)) 3, none, false, [], false⟩,
 ⟨some 12, .move (.tmp 22), none, false, [], false⟩])))))))
 (.seq
 (.reg false [
 ⟨some 4, .assign (.const (.int .i64 0)), none, false, [], false⟩,
 ⟨some 5, .assign (.const (.bool false)), none, false, [], false⟩])
 .ret)))
noncomputable def fi84 : FI := ⟨c84, 23, [.tmp 4, .tmp 5], .plain⟩
noncomputable def c85 : XC :=
 (.seq
 (.reg false [
 ⟨some 6, .move (.tmp 0), none, false, [], false⟩,
 ⟨some 7, .range 86 (.tmp 6), none, false, [], false⟩])
 (.block 0
 (.loop
 (.seq
 (.reg false [
 ⟨some 8, .next (.tmp 7) false, none, false, [], false⟩,
 ⟨some 9, .extract (.tmp 8) 0, none, false, [], false⟩])
 (.seq
 (.cond (.tmp 9)
 .skip
 (.exit 0))
 (.block 1
 (.seq
 (.reg false [
 ⟨some 10, .entry (.tmp 7), none, false, [], false⟩,
 ⟨some 11, .extract (.tmp 10) 0, none, false, [], false⟩,
 ⟨some 12, .extract (.tmp 10) 1, none, false, [], false⟩,
 ⟨some 5, .alloc 123, none, false, [], false⟩,
 ⟨some 4, .assign (.tmp 11), none, false, [], false⟩,
 ⟨none, .store 123 (.tmp 5) (.tmp 12), none, false, [], false⟩])
 (.seq
 (.reg false [
 ⟨some 13, .move (.tmp 1), none, false, [], false⟩,
 ⟨some 14, .move (.tmp 4), none, false, [], false⟩,
 ⟨some 15, .load 123 (.tmp 5), none, false, [], false⟩,
 ⟨some 16, .call ⟨.value (.tmp 13), #[.tmp 14, .tmp 15], #[3, 123]⟩, none, false, [], false⟩])
 (.cond (.tmp 16)
 (.reg false [
 ⟨some 17, .move (.tmp 0), none, false, [], false⟩,
 ⟨some 18, .move (.tmp 4), none, false, [], false⟩,
 ⟨none, .call ⟨.builtin .delete, #[.tmp 17, .tmp 18], #[86, 3]⟩, none, false, [], false⟩])
 .skip)))))))))
noncomputable def fi85 : FI := ⟨c85, 19, [], .plain⟩
noncomputable def c86 : XC :=
 (.seq
 (.reg false [
 ⟨some 4, .box 123 (.tmp 1), none, false, [], false⟩,
 ⟨some 5, .assign (.const (.bool false)), none, false, [], false⟩])
 (.seq
 (.reg false [
 ⟨some 6, .move (.tmp 0), none, false, [], false⟩,
 ⟨some 7, .load 3 (.tmp 2), none, false, [], false⟩,
 ⟨some 8, .binOp .eql 3 (.tmp 6) (.tmp 7) 3, none, false, [], false⟩,
 ⟨some 9, .move (.tmp 8), none, false, [], false⟩,
 ⟨some 10, .load 123 (.tmp 4), some (some 9, false), false, [], false⟩,
 ⟨some 11, .load 3 (.tmp 2), some (some 9, false), false, [], false⟩,
 ⟨some 12, .call ⟨.value (.func 87), #[.tmp 10, .tmp 11], #[123, 3]⟩, some (some 9, false), false, [], false⟩,
 ⟨some 13, .pick (.tmp 9) (.const (.bool true)) (.tmp 12), none, false, [], false⟩,
 ⟨some 5, .assign (.tmp 13), none, false, [], false⟩])
 .ret))
noncomputable def fi86 : FI := ⟨c86, 14, [.tmp 5], .plain⟩
noncomputable def c87 : XC :=
 (.seq
 (.reg false [
 ⟨some 2, .box 123 (.tmp 0), none, false, [], false⟩,
 ⟨some 4, .assign (.const (.bool false)), none, false, [], false⟩])
 (.seq
 (.reg false [
 ⟨some 5, .fieldAddr 123 (.tmp 2) 3, none, false, [], false⟩,
 ⟨some 6, .load 3 (.tmp 5), none, false, [], false⟩,
 ⟨some 7, .move (.tmp 1), none, false, [], false⟩,
 ⟨some 8, .binOp .eql 3 (.tmp 6) (.tmp 7) 3, none, false, [], false⟩,
 ⟨some 9, .move (.tmp 8), none, false, [], false⟩,
 ⟨some 10, .fieldAddr 123 (.tmp 2) 4, some (some 9, false), false, [], false⟩,
 ⟨some 11, .load 3 (.tmp 10), some (some 9, false), false, [], false⟩,
 ⟨some 12, .move (.tmp 1), some (some 9, false), false, [], false⟩,
 ⟨some 13, .binOp .eql 3 (.tmp 11) (.tmp 12) 3, some (some 9, false), false, [], false⟩,
 ⟨some 14, .pick (.tmp 9) (.const (.bool true)) (.tmp 13), none, false, [], false⟩,
 ⟨some 4, .assign (.tmp 14), none, false, [], false⟩])
 .ret))
noncomputable def fi87 : FI := ⟨c87, 15, [.tmp 4], .plain⟩
noncomputable def c88 : XC :=
 (.seq
 (.reg false [
 ⟨some 2, .assign (.const (.slice none 0 0)), none, false, [], false⟩])
 (.seq
 (.reg false [
 ⟨some 3, .assign (.const (.slice none 0 0)), none, false, [], false⟩])
 (.seq
 (.seq
 (.reg false [
 ⟨some 4, .assign (.const (.int .i64 0)), none, false, [], false⟩])
 (.block 0
 (.loop
 (.seq
 (.seq
 (.reg false [
 ⟨some 5, .move (.tmp 4), none, false, [], false⟩,
 ⟨some 6, .move (.tmp 0), none, false, [], false⟩,
 ⟨some 7, .call ⟨.builtin .len, #[.tmp 6], #[26]⟩, none, false, [], false⟩,
 ⟨some 8, .binOp .lss 3 (.tmp 5) (.tmp 7) 3, none, false, [], false⟩])
 (.cond (.tmp 8)
 .skip
 (.exit 0)))
 (.seq
 (.block 1
 (.reg false [
 ⟨some 11, .move (.tmp 3), none, false, [], false⟩,
 ⟨some 12, .move (.tmp 0), none, false, [], false⟩,
 ⟨some 13, .move (.tmp 4), none, false, [], false⟩,
 ⟨some 14, .indexAddr 26 (.tmp 12) (.tmp 13), none, false, [], false⟩,
 ⟨some 15, .load 24 (.tmp 14), none, false, [], false⟩,
 ⟨some 16, .call ⟨.value (.func 89), #[.tmp 15], #[24]⟩, none, false, [], false⟩,
 ⟨some 17, .buildSlice 26 1 #[(0, .tmp 16)], none, false, [], false⟩,
 ⟨some 18, .call ⟨.builtin .append, #[.tmp 11, .tmp 17], #[26, 26]⟩, none, false, [], false⟩,
 ⟨some 3, .assign (.tmp 18), none, false, [], false⟩]))
 (.reg false [
 ⟨some 9, .move (.tmp 4), none, false, [], false⟩,
 ⟨some 10, .binOp .add 3 (.tmp 9) (.const (.int .i64 1)) 3, none, false, [], false⟩,
 ⟨some 4, .assign (.tmp 10), none, false, [], false⟩]))))))
 (.seq
 (.reg false [
 ⟨some 19, .move (.tmp 3), none, false, [], false⟩,
 ⟨some 2, .assign (.tmp 19), none, false, [], false⟩])
 .ret))))
noncomputable def fi88 : FI := ⟨c88, 20, [.tmp 2], .plain⟩
noncomputable def c89 : XC :=
 (.seq
 (.reg false [
 ⟨some 1, .box 24 (.tmp 0), none, false, [], false⟩,
 ⟨some 2, .alloc 24, none, false, [], false⟩])
 (.seq
 (.reg false [
 ⟨some 3, .fieldAddr 24 (.tmp 1) 7, none, false, [], false⟩,
 ⟨some 4, .load 22 (.tmp 3), none, false, [], false⟩,
 ⟨some 5, .call ⟨.value (.func 53), #[.tmp 4], #[22]⟩, none, false, [], false⟩,
 ⟨some 6, .fieldAddr 24 (.tmp 1) 7, none, false, [], false⟩,
 ⟨none, .store 22 (.tmp 6) (.tmp 5), none, false, [], false⟩])
 (.seq
 (.reg false [
 ⟨some 7, .load 24 (.tmp 1), none, false, [], false⟩,
 ⟨none, .store 24 (.tmp 2) (.tmp 7), none, false, [], false⟩])
 .ret)))
noncomputable def fi89 : FI := ⟨c89, 8, [.cell 2 24], .plain⟩
noncomputable def c90 : XC :=
 (.seq
 (.reg false [
 ⟨some 2, .box 31 (.tmp 0), none, false, [], false⟩,
 ⟨some 3, .box 24 (.tmp 1), none, false, [], false⟩,
 ⟨some 4, .alloc 133, none, false, [], false⟩])
 (.seq
 (.seq
 (.reg false [
 ⟨some 5, .fieldAddr 24 (.tmp 3) 0, none, false, [], false⟩,
 ⟨some 6, .load 3 (.tmp 5), none, false, [], false⟩])
 (.block 0
 (.seq
 (.reg false [
 ⟨some 8, .binOp .eql 3 (.tmp 6) (.const (.int .i64 1)) 3, none, false, [], false⟩,
 ⟨some 7, .assign (.tmp 8), none, false, [], false⟩])
 (.cond (.tmp 7)
 (.seq
 (.reg true [
 ⟨some 9, .fieldAddr 24 (.tmp 3) 0, none, false, [], false⟩,
 ⟨some 10, .load 3 (.tmp 9), none, false, [], false⟩,
 ⟨some 11, .fieldAddr 31 (.tmp 2) 3, none, false, [], false⟩,
 ⟨some 12, .load 22 (.tmp 11), none, false, [], false⟩,
 ⟨some 13, .fieldAddr 24 (.tmp 3) 2, none, false, [], false⟩,
 ⟨some 14, .load 3 (.tmp 13), none, false, [], false⟩,
 ⟨some 15, .indexAddr 22 (.tmp 12) (.tmp 14), none, false, [], false⟩,
 ⟨some 16, .load 3 (.tmp 15), none, false, [], false⟩,
 ⟨some 17, .fieldAddr 24 (.tmp 3) 5, none, false, [], false⟩,
 ⟨some 18, .load 3 (.tmp 17), none, false, [], false⟩,
 ⟨some 19, .build 133 #[(0, .const (.bool true)), (1, .tmp 10), (2, .tmp 16), (3, .tmp 18)], none, false, [], false⟩,
 ⟨none, .store 133 (.tmp 4) (.tmp 19), none, false, [], false⟩])
 .ret)
 (.seq
 (.reg false [
 ⟨some 21, .binOp .eql 3 (.tmp 6) (.const (.int .i64 3)) 3, none, false, [], false⟩,
 ⟨some 20, .assign (.tmp 21), none, false, [], false⟩])
 (.cond (.tmp 20)
 (.seq
 (.seq
 (.reg false [
 ⟨some 22, .fieldAddr 24 (.tmp 3) 6, none, false, [], false⟩,
 ⟨some 23, .load 9 (.tmp 22), none, false, [], false⟩,
 ⟨some 24, .binOp .eql 9 (.tmp 23) (.const (.string ⟨#[47]⟩)) 9, none, false, [], false⟩,
 ⟨some 25, .move (.tmp 24), none, false, [], false⟩,
 ⟨some 26, .fieldAddr 24 (.tmp 3) 6, some (some 25, false), false, [], false⟩,
 ⟨some 27, .load 9 (.tmp 26), some (some 25, false), false, [], false⟩,
 ⟨some 28, .binOp .eql 9 (.tmp 27) (.const (.string ⟨#[37]⟩)) 9, some (some 25, false), false, [], false⟩,
 ⟨some 29, .pick (.tmp 25) (.const (.bool true)) (.tmp 28), none, false, [], false⟩])
 (.cond (.tmp 29)
 (.seq
 (.reg false [
 ⟨some 30, .build 133 #[], none, false, [], false⟩,
 ⟨none, .store 133 (.tmp 4) (.tmp 30), none, false, [], false⟩])
 .ret)
 .skip))
 (.seq
 (.reg false [
 ⟨some 31, .fieldAddr 24 (.tmp 3) 0, none, false, [], false⟩,
 ⟨some 32, .load 3 (.tmp 31), none, false, [], false⟩,
 ⟨some 33, .fieldAddr 24 (.tmp 3) 1, none, false, [], false⟩,
 ⟨some 34, .load 3 (.tmp 33), none, false, [], false⟩,
 ⟨some 35, .fieldAddr 24 (.tmp 3) 6, none, false, [], false⟩,
 ⟨some 36, .load 9 (.tmp 35), none, false, [], false⟩,
 ⟨some 37, .fieldAddr 24 (.tmp 3) 3, none, false, [], false⟩,
 ⟨some 38, .load 3 (.tmp 37), none, false, [], false⟩,
 ⟨some 39, .fieldAddr 24 (.tmp 3) 4, none, false, [], false⟩,
 ⟨some 40, .load 3 (.tmp 39), none, false, [], false⟩,
 ⟨some 41, .build 133 #[(0, .const (.bool true)), (1, .tmp 32), (2, .tmp 34), (6, .tmp 36), (4, .tmp 38), (5, .tmp 40)], none, false, [], false⟩,
 ⟨none, .store 133 (.tmp 4) (.tmp 41), none, false, [], false⟩])
 .ret))
 (.seq
 (.reg false [
 ⟨some 43, .binOp .eql 3 (.tmp 6) (.const (.int .i64 4)) 3, none, false, [], false⟩,
 ⟨some 42, .assign (.tmp 43), none, false, [], false⟩])
 (.cond (.tmp 42)
 (.seq
 (.reg false [
 ⟨some 44, .fieldAddr 24 (.tmp 3) 0, none, false, [], false⟩,
 ⟨some 45, .load 3 (.tmp 44), none, false, [], false⟩,
 ⟨some 46, .fieldAddr 24 (.tmp 3) 1, none, false, [], false⟩,
 ⟨some 47, .load 3 (.tmp 46), none, false, [], false⟩,
 ⟨some 48, .fieldAddr 24 (.tmp 3) 3, none, false, [], false⟩,
 ⟨some 49, .load 3 (.tmp 48), none, false, [], false⟩,
 ⟨some 50, .build 133 #[(0, .const (.bool true)), (1, .tmp 45), (2, .tmp 47), (4, .tmp 49)], none, false, [], false⟩,
 ⟨none, .store 133 (.tmp 4) (.tmp 50), none, false, [], false⟩])
 .ret)
 .skip))))))))
 (.seq
 (.reg false [
 ⟨some 51, .build 133 #[], none, false, [], false⟩,
 ⟨none, .store 133 (.tmp 4) (.tmp 51), none, false, [], false⟩])
 .ret)))
noncomputable def fi90 : FI := ⟨c90, 52, [.cell 4 133], .plain⟩
noncomputable def c91 : XC :=
 (.seq
 (.reg false [
 ⟨some 1, .box 24 (.tmp 0), none, false, [], false⟩,
 ⟨some 2, .assign (.const (.int .i64 0)), none, false, [], false⟩])
 (.seq
 (.reg false [
 ⟨some 4, .fieldAddr 24 (.tmp 1) 0, none, false, [], false⟩,
 ⟨some 5, .load 3 (.tmp 4), none, false, [], false⟩,
 ⟨some 6, .binOp .geq 3 (.tmp 5) (.const (.int .i64 1)) 3, none, false, [], false⟩,
 ⟨some 7, .move (.tmp 6), none, false, [], false⟩,
 ⟨some 8, .fieldAddr 24 (.tmp 1) 0, some (some 7, true), false, [], false⟩,
 ⟨some 9, .load 3 (.tmp 8), some (some 7, true), false, [], false⟩,
 ⟨some 10, .binOp .leq 3 (.tmp 9) (.const (.int .i64 5)) 3, some (some 7, true), false, [], false⟩,
 ⟨some 11, .pick (.tmp 7) (.tmp 10) (.const (.bool false)), none, false, [], false⟩,
 ⟨some 12, .move (.tmp 11), none, false, [], false⟩,
 ⟨some 13, .fieldAddr 24 (.tmp 1) 0, some (some 12, false), false, [], false⟩,
 ⟨some 14, .load 3 (.tmp 13), some (some 12, false), false, [], false⟩,
 ⟨some 15, .binOp .eql 3 (.tmp 14) (.const (.int .i64 7)) 3, some (some 12, false), false, [], false⟩,
 ⟨some 16, .pick (.tmp 12) (.const (.bool true)) (.tmp 15), none, false, [], false⟩,
 ⟨some 17, .move (.tmp 16), none, false, [], false⟩,
 ⟨some 18, .fieldAddr 24 (.tmp 1) 0, some (some 17, false), false, [], false⟩,
 ⟨some 19, .load 3 (.tmp 18), some (some 17, false), false, [], false⟩,
 ⟨some 20, .binOp .eql 3 (.tmp 19) (.const (.int .i64 10)) 3, some (some 17, false), false, [], false⟩,
 ⟨some 21, .pick (.tmp 17) (.const (.bool true)) (.tmp 20), none, false, [], false⟩,
 ⟨some 22, .move (.tmp 21), none, false, [], false⟩,
 ⟨some 23, .fieldAddr 24 (.tmp 1) 0, some (some 22, false), false, [], false⟩,
 ⟨some 24, .load 3 (.tmp 23), some (some 22, false), false, [], false⟩,
 ⟨some 25, .binOp .eql 3 (.tmp 24) (.const (.int .i64 9)) 3, some (some 22, false), false, [], false⟩,
 ⟨some 26, .move (.tmp 25), some (some 22, false), false, [], false⟩,
 ⟨some 27, .fieldAddr 24 (.tmp 1) 2, some (some 26, true), false, [], false⟩,
 ⟨some 28, .load 3 (.tmp 27), some (some 26, true), false, [], false⟩,
 ⟨some 29, .binOp .geq 3 (.tmp 28) (.const (.int .i64 0)) 3, some (some 26, true), false, [], false⟩,
 ⟨some 30, .pick (.tmp 26) (.tmp 29) (.const (.bool false)), some (some 22, false), false, [], false⟩,
 ⟨some 31, .pick (.tmp 22) (.const (.bool true)) (.tmp 30), none, false, [], false⟩,
 ⟨some 3, .assign (.tmp 31), none, false, [], false⟩])
 (.seq
 (.seq
 (.reg false [
 ⟨some 32, .move (.tmp 3), none, false, [], false⟩])
 (.cond (.tmp 32)
 (.seq
 (.reg false [
 ⟨some 33, .fieldAddr 24 (.tmp 1) 2, none, false, [], false⟩,
 ⟨some 34, .load 3 (.tmp 33), none, false, [], false⟩,
 ⟨some 2, .assign (.tmp 34), none, false, [], false⟩])
 .ret)
 .skip))
 (.seq
 (.reg false [
 ⟨some 2, .assign (.const (.int .i64 (-1))), none, false, [], false⟩])
 .ret))))
noncomputable def fi91 : FI := ⟨c91, 35, [.tmp 2], .plain⟩
noncomputable def c92 : XC :=
 (.seq
 (.reg false [
 ⟨some 2, .box 133 (.tmp 0), none, false, [], false⟩,
 ⟨some 4, .assign (.const (.bool false)), none, false, [], false⟩])
 (.seq
 (.reg false [
 ⟨some 5, .fieldAddr 133 (.tmp 2) 0, none, false, [], false⟩,
 ⟨some 6, .load 4 (.tmp 5), none, false, [], false⟩,
 ⟨some 7, .move (.tmp 6), none, false, [], false⟩,
 ⟨some 8, .fieldAddr 133 (.tmp 2) 1, some (some 7, true), false, [], false⟩,
 ⟨some 9, .load 3 (.tmp 8), some (some 7, true), false, [], false⟩,
 ⟨some 10, .binOp .eql 3 (.tmp 9) (.const (.int .i64 3)) 3, some (some 7, true), false, [], false⟩,
 ⟨some 11, .move (.tmp 10), some (some 7, true), false, [], false⟩,
 ⟨some 12, .fieldAddr 133 (.tmp 2) 4, some (some 11, true), false, [], false⟩,
 ⟨some 13, .load 3 (.tmp 12), some (some 11, true), false, [], false⟩,
 ⟨some 14, .move (.tmp 1), some (some 11, true), false, [], false⟩,
 ⟨some 15, .binOp .eql 3 (.tmp 13) (.tmp 14) 3, some (some 11, true), false, [], false⟩,
 ⟨some 16, .move (.tmp 15), some (some 11, true), false, [], false⟩,
 ⟨some 17, .fieldAddr 133 (.tmp 2) 5, some (some 16, false), false, [], false⟩,
 ⟨some 18, .load 3 (.tmp 17), some (some 16, false), false, [], false⟩,
 ⟨some 19, .move (.tmp 1), some (some 16, false), false, [], false⟩,
 ⟨some 20, .binOp .eql 3 (.tmp 18) (.tmp 19) 3, some (some 16, false), false, [], false⟩,
 ⟨some 21, .pick (.tmp 16) (.const (.bool true)) (.tmp 20), some (some 11, true), false, [], false⟩,
 ⟨some 22, .pick (.tmp 11) (.tmp 21) (.const (.bool false)), some (some 7, true), false, [], false⟩,
 ⟨some 23, .move (.tmp 22), some (some 7, true), false, [], false⟩,
 ⟨some 24, .fieldAddr 133 (.tmp 2) 1, some (some 23, false), false, [], false⟩,
 ⟨some 25, .load 3 (.tmp 24), some (some 23, false), false, [], false⟩,
 ⟨some 26, .binOp .eql 3 (.tmp 25) (.const (.int .i64 4)) 3, some (some 23, false), false, [], false⟩,
 ⟨some 27, .move (.tmp 26), some (some 23, false), false, [], false⟩,
 ⟨some 28, .fieldAddr 133 (.tmp 2) 4, some (some 27, true), false, [], false⟩,
 ⟨some 29, .load 3 (.tmp 28), some (some 27, true), false, [], false⟩,
 ⟨some 30, .move (.tmp 1), some (some 27, true), false, [], false⟩,
 ⟨some 31, .binOp .eql 3 (.tmp 29) (.tmp 30) 3, some (some 27, true), false, [], false⟩,
 ⟨some 32, .pick (.tmp 27) (.tmp 31) (.const (.bool false)), some (some 23, false), false, [], false⟩,
 ⟨some 33, .pick (.tmp 23) (.const (.bool true)) (.tmp 32), some (some 7, true), false, [], false⟩,
 ⟨some 34, .pick (.tmp 7) (.tmp 33) (.const (.bool false)), none, false, [], false⟩,
 ⟨some 4, .assign (.tmp 34), none, false, [], false⟩])
 .ret))
noncomputable def fi92 : FI := ⟨c92, 35, [.tmp 4], .plain⟩
noncomputable def c93 : XC :=
 (.seq
 (.reg false [
 ⟨some 2, .assign (.const (.int .i64 0)), none, false, [], false⟩])
 (.seq
 (.reg false [
 ⟨some 3, .move (.tmp 0), none, false, [], false⟩,
 ⟨some 4, .binOp .mul 3 (.const (.int .i64 13)) (.tmp 3) 3, none, false, [], false⟩,
 ⟨some 5, .binOp .add 3 (.const (.int .i64 7001)) (.tmp 4) 3, none, false, [], false⟩,
 ⟨some 2, .assign (.tmp 5), none, false, [], false⟩])
 .ret))
noncomputable def fi93 : FI := ⟨c93, 6, [.tmp 2], .plain⟩
noncomputable def c94 : XC :=
 (.seq
 (.reg false [
 ⟨some 2, .alloc 24, none, false, [], false⟩])
 (.seq
 (.reg false [
 ⟨some 3, .move (.tmp 0), none, false, [], false⟩,
 ⟨some 4, .binOp .sub 3 (.const (.int .i64 (-9))) (.tmp 3) 3, none, false, [], false⟩,
 ⟨some 5, .build 24 #[(0, .tmp 4)], none, false, [], false⟩,
 ⟨none, .store 24 (.tmp 2) (.tmp 5), none, false, [], false⟩])
 .ret))
noncomputable def fi94 : FI := ⟨c94, 6, [.cell 2 24], .plain⟩
noncomputable def c95 : XC :=
 (.seq
 (.reg false [
 ⟨some 2, .alloc 46, none, false, [], false⟩])
 (.seq
 (.reg false [
 ⟨some 3, .move (.tmp 0), none, false, [], false⟩,
 ⟨some 4, .binOp .sub 3 (.const (.int .i64 (-9))) (.tmp 3) 3, none, false, [], false⟩,
 ⟨some 5, .build 44 #[(0, .tmp 4)], none, false, [], false⟩,
 ⟨some 6, .build 46 #[(1, .tmp 5)], none, false, [], false⟩,
 ⟨none, .store 46 (.tmp 2) (.tmp 6), none, false, [], false⟩])
 .ret))
noncomputable def fi95 : FI := ⟨c95, 7, [.cell 2 46], .plain⟩
noncomputable def c96 : XC :=
 (.seq
 (.reg false [
 ⟨some 2, .assign (.const (.slice none 0 0)), none, false, [], false⟩])
 (.seq
 (.reg false [
 ⟨some 3, .assign (.const (.slice none 0 0)), none, false, [], false⟩])
 (.seq
 (.seq
 (.reg false [
 ⟨some 4, .assign (.const (.int .i64 0)), none, false, [], false⟩])
 (.block 0
 (.loop
 (.seq
 (.seq
 (.reg false [
 ⟨some 5, .move (.tmp 4), none, false, [], false⟩,
 ⟨some 6, .move (.tmp 0), none, false, [], false⟩,
 ⟨some 7, .call ⟨.builtin .len, #[.tmp 6], #[34]⟩, none, false, [], false⟩,
 ⟨some 8, .binOp .lss 3 (.tmp 5) (.tmp 7) 3, none, false, [], false⟩])
 (.cond (.tmp 8)
 .skip
 (.exit 0)))
 (.seq
 (.block 1
 (.reg false [
 ⟨some 11, .move (.tmp 3), none, false, [], false⟩,
 ⟨some 12, .move (.tmp 0), none, false, [], false⟩,
 ⟨some 13, .move (.tmp 4), none, false, [], false⟩,
 ⟨some 14, .indexAddr 34 (.tmp 12) (.tmp 13), none, false, [], false⟩,
 ⟨some 15, .load 93 (.tmp 14), none, false, [], false⟩,
 ⟨some 16, .buildSlice 34 1 #[(0, .tmp 15)], none, false, [], false⟩,
 ⟨some 17, .call ⟨.builtin .append, #[.tmp 11, .tmp 16], #[34, 34]⟩, none, false, [], false⟩,
 ⟨some 3, .assign (.tmp 17), none, false, [], false⟩]))
 (.reg false [
 ⟨some 9, .move (.tmp 4), none, false, [], false⟩,
 ⟨some 10, .binOp .add 3 (.tmp 9) (.const (.int .i64 1)) 3, none, false, [], false⟩,
 ⟨some 4, .assign (.tmp 10), none, false, [], false⟩]))))))
 (.seq
 (.reg false [
 ⟨some 18, .move (.tmp 3), none, false, [], false⟩,
 ⟨some 2, .assign (.tmp 18), none, false, [], false⟩])
 .ret))))
noncomputable def fi96 : FI := ⟨c96, 19, [.tmp 2], .plain⟩
noncomputable def c97 : XC :=
 (.seq
 (.reg false [
 ⟨some 2, .assign (.const (.slice none 0 0)), none, false, [], false⟩])
 (.seq
 (.reg false [
 ⟨some 3, .assign (.const (.slice none 0 0)), none, false, [], false⟩])
 (.seq
 (.seq
 (.reg false [
 ⟨some 4, .assign (.const (.int .i64 0)), none, false, [], false⟩])
 (.block 0
 (.loop
 (.seq
 (.seq
 (.reg false [
 ⟨some 5, .move (.tmp 4), none, false, [], false⟩,
 ⟨some 6, .move (.tmp 0), none, false, [], false⟩,
 ⟨some 7, .call ⟨.builtin .len, #[.tmp 6], #[33]⟩, none, false, [], false⟩,
 ⟨some 8, .binOp .lss 3 (.tmp 5) (.tmp 7) 3, none, false, [], false⟩])
 (.cond (.tmp 8)
 .skip
 (.exit 0)))
 (.seq
 (.block 1
 (.reg false [
 ⟨some 11, .move (.tmp 3), none, false, [], false⟩,
 ⟨some 12, .move (.tmp 0), none, false, [], false⟩,
 ⟨some 13, .move (.tmp 4), none, false, [], false⟩,
 ⟨some 14, .indexAddr 33 (.tmp 12) (.tmp 13), none, false, [], false⟩,
 ⟨some 15, .load 31 (.tmp 14), none, false, [], false⟩,
 ⟨some 16, .call ⟨.value (.func 26), #[.tmp 15], #[31]⟩, none, false, [], false⟩,
 ⟨some 17, .buildSlice 33 1 #[(0, .tmp 16)], none, false, [], false⟩,
 ⟨some 18, .call ⟨.builtin .append, #[.tmp 11, .tmp 17], #[33, 33]⟩, none, false, [], false⟩,
 ⟨some 3, .assign (.tmp 18), none, false, [], false⟩]))
 (.reg false [
 ⟨some 9, .move (.tmp 4), none, false, [], false⟩,
 ⟨some 10, .binOp .add 3 (.tmp 9) (.const (.int .i64 1)) 3, none, false, [], false⟩,
 ⟨some 4, .assign (.tmp 10), none, false, [], false⟩]))))))
 (.seq
 (.reg false [
 ⟨some 19, .move (.tmp 3), none, false, [], false⟩,
 ⟨some 2, .assign (.tmp 19), none, false, [], false⟩])
 .ret))))
noncomputable def fi97 : FI := ⟨c97, 20, [.tmp 2], .plain⟩
noncomputable def c98 : XC :=
 (.seq
 (.reg false [
 ⟨some 2, .assign (.const (.bool false)), none, false, [], false⟩])
 (.seq
 (.reg false [
 ⟨some 3, .move (.tmp 0), none, false, [], false⟩,
 ⟨some 4, .call ⟨.value (.func 60), #[.tmp 3], #[3]⟩, none, false, [], false⟩,
 ⟨some 5, .unOp .not 4 (.tmp 4), none, false, [], false⟩,
 ⟨some 2, .assign (.tmp 5), none, false, [], false⟩])
 .ret))
noncomputable def fi98 : FI := ⟨c98, 6, [.tmp 2], .plain⟩
noncomputable def c99 : XC :=
 (.seq
 (.reg false [
 ⟨some 2, .box 96 (.tmp 0), none, false, [], false⟩,
 ⟨some 3, .box 24 (.tmp 1), none, false, [], false⟩,
 ⟨some 4, .assign (.const (.int .i64 0)), none, false, [], false⟩])
 (.seq
 (.block 0
 (.seq
 (.reg false [
 ⟨some 6, .load 24 (.tmp 3), none, false, [], false⟩,
 ⟨some 7, .call ⟨.value (.func 124), #[.tmp 6], #[24]⟩, none, false, [], false⟩,
 ⟨some 8, .unOp .not 4 (.tmp 7), none, false, [], false⟩,
 ⟨some 5, .assign (.tmp 8), none, false, [], false⟩])
 (.cond (.tmp 5)
 (.seq
 (.reg false [
 ⟨some 4, .assign (.const (.int .i64 2)), none, false, [], false⟩])
 .ret)
 (.seq
 (.reg false [
 ⟨some 10, .load 96 (.tmp 2), none, false, [], false⟩,
 ⟨some 11, .load 24 (.tmp 3), none, false, [], false⟩,
 ⟨some 12, .call ⟨.value (.func 125), #[.tmp 10, .tmp 11], #[96, 24]⟩, none, false, [], false⟩,
 ⟨some 13, .unOp .not 4 (.tmp 12), none, false, [], false⟩,
 ⟨some 9, .assign (.tmp 13), none, false, [], false⟩])
 (.cond (.tmp 9)
 (.seq
 (.reg false [
 ⟨some 4, .assign (.const (.int .i64 11)), none, false, [], false⟩])
 .ret)
 (.seq
 (.reg true [
 ⟨some 15, .fieldAddr 24 (.tmp 3) 0, none, false, [], false⟩,
 ⟨some 16, .load 3 (.tmp 15), none, false, [], false⟩,
 ⟨some 17, .binOp .eql 3 (.tmp 16) (.const (.int .i64 9)) 3, none, false, [], false⟩,
 ⟨some 18, .move (.tmp 17), none, false, [], false⟩,
 ⟨some 19, .fieldAddr 24 (.tmp 3) 7, some (some 18, true), false, [], false⟩,
 ⟨some 20, .load 22 (.tmp 19), some (some 18, true), false, [], false⟩,
 ⟨some 21, .call ⟨.builtin .len, #[.tmp 20], #[22]⟩, some (some 18, true), false, [], false⟩,
 ⟨some 22, .fieldAddr 96 (.tmp 2) 0, some (some 18, true), false, [], false⟩,
 ⟨some 23, .fieldAddr 36 (.tmp 22) 1, some (some 18, true), false, [], false⟩,
 ⟨some 24, .load 33 (.tmp 23), some (some 18, true), false, [], false⟩,
 ⟨some 25, .fieldAddr 24 (.tmp 3) 5, some (some 18, true), false, [], false⟩,
 ⟨some 26, .load 3 (.tmp 25), some (some 18, true), false, [], false⟩,
 ⟨some 27, .indexAddr 33 (.tmp 24) (.tmp 26), some (some 18, true), false, [], false⟩,
 ⟨some 28, .fieldAddr 31 (.tmp 27) 2, some (some 18, true), false, [], false⟩,
 ⟨some 29, .load 3 (.tmp 28), some (some 18, true), false, [], false⟩,
 ⟨some 30, .binOp .neq 3 (.tmp 21) (.tmp 29) 3, some (some 18, true), false, [], false⟩,
 ⟨some 31, .pick (.tmp 18) (.tmp 30) (.const (.bool false)), none, false, [], false⟩,
 ⟨some 14, .assign (.tmp 31), none, false, [], false⟩])
 (.cond (.tmp 14)
 (.seq
 (.reg false [
 ⟨some 4, .assign (.const (.int .i64 7)), none, false, [], false⟩])
 .ret)
 (.seq
 (.reg false [
 ⟨some 33, .load 96 (.tmp 2), none, false, [], false⟩,
 ⟨some 34, .load 24 (.tmp 3), none, false, [], false⟩,
 ⟨some 35, .call ⟨.value (.func 126), #[.tmp 33, .tmp 34], #[96, 24]⟩, none, false, [], false⟩,
 ⟨some 36, .unOp .not 4 (.tmp 35), none, false, [], false⟩,
 ⟨some 32, .assign (.tmp 36), none, false, [], false⟩])
 (.cond (.tmp 32)
 (.seq
 (.reg false [
 ⟨some 4, .assign (.const (.int .i64 6)), none, false, [], false⟩])
 .ret)
 .skip)))))))))
 (.seq
 (.reg false [
 ⟨some 4, .assign (.const (.int .i64 0)), none, false, [], false⟩])
 .ret)))
noncomputable def fi99 : FI := ⟨c99, 37, [.tmp 4], .plain⟩
noncomputable def c100 : XC :=
 (.seq
 (.reg false [
 ⟨some 2, .box 96 (.tmp 0), none, false, [], false⟩,
 ⟨some 3, .box 44 (.tmp 1), none, false, [], false⟩,
 ⟨some 4, .assign (.const (.int .i64 0)), none, false, [], false⟩])
 (.seq
 (.reg true [
 ⟨some 9, .fieldAddr 96 (.tmp 2) 1, none, false, [], false⟩,
 ⟨some 10, .fieldAddr 31 (.tmp 9) 4, none, false, [], false⟩,
 ⟨some 11, .load 29 (.tmp 10), none, false, [], false⟩,
 ⟨some 12, .call ⟨.builtin .len, #[.tmp 11], #[29]⟩, none, false, [], false⟩,
 ⟨some 13, .fieldAddr 96 (.tmp 2) 1, none, false, [], false⟩,
 ⟨some 14, .fieldAddr 31 (.tmp 13) 3, none, false, [], false⟩,
 ⟨some 15, .load 22 (.tmp 14), none, false, [], false⟩,
 ⟨some 16, .call ⟨.builtin .len, #[.tmp 15], #[22]⟩, none, false, [], false⟩,
 ⟨some 5, .assign (.tmp 12), none, false, [], false⟩,
 ⟨some 6, .assign (.tmp 16), none, false, [], false⟩])
 (.seq
 (.reg false [
 ⟨some 7, .assign (.const (.bool true)), none, false, [], false⟩,
 ⟨some 8, .assign (.const (.bool true)), none, false, [], false⟩])
 (.seq
 (.seq
 (.reg false [
 ⟨some 17, .fieldAddr 44 (.tmp 3) 0, none, false, [], false⟩,
 ⟨some 18, .load 3 (.tmp 17), none, false, [], false⟩])
 (.block 0
 (.seq
 (.reg false [
 ⟨some 20, .binOp .eql 3 (.tmp 18) (.const (.int .i64 1)) 3, none, false, [], false⟩,
 ⟨some 19, .assign (.tmp 20), none, false, [], false⟩])
 (.cond (.tmp 19)
 (.reg false [
 ⟨some 21, .fieldAddr 44 (.tmp 3) 2, none, false, [], false⟩,
 ⟨some 22, .load 3 (.tmp 21), none, false, [], false⟩,
 ⟨some 23, .move (.tmp 5), none, false, [], false⟩,
 ⟨some 24, .call ⟨.value (.func 127), #[.tmp 22, .tmp 23], #[3, 3]⟩, none, false, [], false⟩,
 ⟨some 7, .assign (.tmp 24), none, false, [], false⟩])
 (.seq
 (.reg false [
 ⟨some 26, .binOp .eql 3 (.tmp 18) (.const (.int .i64 2)) 3, none, false, [], false⟩,
 ⟨some 25, .assign (.tmp 26), none, false, [], false⟩])
 (.cond (.tmp 25)
 (.seq
 (.reg false [
 ⟨some 27, .fieldAddr 44 (.tmp 3) 2, none, false, [], false⟩,
 ⟨some 28, .load 3 (.tmp 27), none, false, [], false⟩,
 ⟨some 29, .move (.tmp 5), none, false, [], false⟩,
 ⟨some 30, .call ⟨.value (.func 127), #[.tmp 28, .tmp 29], #[3, 3]⟩, none, false, [], false⟩,
 ⟨some 31, .move (.tmp 30), none, false, [], false⟩,
 ⟨some 32, .fieldAddr 44 (.tmp 3) 3, some (some 31, true), false, [], false⟩,
 ⟨some 33, .load 3 (.tmp 32), some (some 31, true), false, [], false⟩,
 ⟨some 34, .move (.tmp 5), some (some 31, true), false, [], false⟩,
 ⟨some 35, .call ⟨.value (.func 127), #[.tmp 33, .tmp 34], #[3, 3]⟩, some (some 31, true), false, [], false⟩,
 ⟨some 36, .pick (.tmp 31) (.tmp 35) (.const (.bool false)), none, false, [], false⟩,
 ⟨some 37, .move (.tmp 36), none, false, [], false⟩,
 ⟨some 38, .fieldAddr 44 (.tmp 3) 1, some (some 37, true), false, [], false⟩,
 ⟨some 39, .load 3 (.tmp 38), some (some 37, true), false, [], false⟩,
 ⟨some 40, .move (.tmp 6), some (some 37, true), false, [], false⟩,
 ⟨some 41, .call ⟨.value (.func 127), #[.tmp 39, .tmp 40], #[3, 3]⟩, some (some 37, true), false, [], false⟩,
 ⟨some 42, .pick (.tmp 37) (.tmp 41) (.const (.bool false)), none, false, [], false⟩,
 ⟨some 7, .assign (.tmp 42), none, false, [], false⟩])
 (.reg false [
 ⟨some 43, .move (.tmp 7), none, false, [], false⟩,
 ⟨some 44, .move (.tmp 43), none, false, [], false⟩,
 ⟨some 45, .fieldAddr 96 (.tmp 2) 1, some (some 44, true), false, [], false⟩,
 ⟨some 46, .fieldAddr 31 (.tmp 45) 3, some (some 44, true), false, [], false⟩,
 ⟨some 47, .load 22 (.tmp 46), some (some 44, true), false, [], false⟩,
 ⟨some 48, .fieldAddr 44 (.tmp 3) 1, some (some 44, true), false, [], false⟩,
 ⟨some 49, .load 3 (.tmp 48), some (some 44, true), false, [], false⟩,
 ⟨some 50, .indexAddr 22 (.tmp 47) (.tmp 49), some (some 44, true), false, [], false⟩,
 ⟨some 51, .load 3 (.tmp 50), some (some 44, true), false, [], false⟩,
 ⟨some 52, .binOp .eql 3 (.tmp 51) (.const (.int .i64 1)) 3, some (some 44, true), false, [], false⟩,
 ⟨some 53, .pick (.tmp 44) (.tmp 52) (.const (.bool false)), none, false, [], false⟩,
 ⟨some 8, .assign (.tmp 53), none, false, [], false⟩]))
 (.seq
 (.reg false [
 ⟨some 55, .binOp .eql 3 (.tmp 18) (.const (.int .i64 3)) 3, none, false, [], false⟩,
 ⟨some 54, .assign (.tmp 55), none, false, [], false⟩])
 (.cond (.tmp 54)
 (.seq
 (.reg false [
 ⟨some 56, .fieldAddr 44 (.tmp 3) 1, none, false, [], false⟩,
 ⟨some 57, .load 3 (.tmp 56), none, false, [], false⟩,
 ⟨some 58, .binOp .lss 3 (.tmp 57) (.const (.int .i64 0)) 3, none, false, [], false⟩,
 ⟨some 59, .move (.tmp 58), none, false, [], false⟩,
 ⟨some 60, .fieldAddr 44 (.tmp 3) 1, some (some 59, false), false, [], false⟩,
 ⟨some 61, .load 3 (.tmp 60), some (some 59, false), false, [], false⟩,
 ⟨some 62, .move (.tmp 6), some (some 59, false), false, [], false⟩,
 ⟨some 63, .call ⟨.value (.func 127), #[.tmp 61, .tmp 62], #[3, 3]⟩, some (some 59, false), false, [], false⟩,
 ⟨some 64, .pick (.tmp 59) (.const (.bool true)) (.tmp 63), none, false, [], false⟩,
 ⟨some 7, .assign (.tmp 64), none, false, [], false⟩])
 (.reg true [
 ⟨some 65, .move (.tmp 7), none, false, [], false⟩,
 ⟨some 66, .move (.tmp 65), none, false, [], false⟩,
 ⟨some 67, .fieldAddr 44 (.tmp 3) 1, some (some 66, true), false, [], false⟩,
 ⟨some 68, .load 3 (.tmp 67), some (some 66, true), false, [], false⟩,
 ⟨some 69, .binOp .lss 3 (.tmp 68) (.const (.int .i64 0)) 3, some (some 66, true), false, [], false⟩,
 ⟨some 70, .fieldAddr 96 (.tmp 2) 1, some (some 66, true), false, [], false⟩,
 ⟨some 71, .fieldAddr 31 (.tmp 70) 1, some (some 66, true), false, [], false⟩,
 ⟨some 72, .load 3 (.tmp 71), some (some 66, true), false, [], false⟩,
 ⟨some 73, .binOp .eql 3 (.tmp 72) (.const (.int .i64 0)) 3, some (some 66, true), false, [], false⟩,
 ⟨some 74, .binOp .eql 4 (.tmp 69) (.tmp 73) 4, some (some 66, true), false, [], false⟩,
 ⟨some 75, .pick (.tmp 66) (.tmp 74) (.const (.bool false)), none, false, [], false⟩,
 ⟨some 76, .move (.tmp 75), none, false, [], false⟩,
 ⟨some 77, .fieldAddr 44 (.tmp 3) 1, some (some 76, true), false, [], false⟩,
 ⟨some 78, .load 3 (.tmp 77), some (some 76, true), false, [], false⟩,
 ⟨some 79, .binOp .lss 3 (.tmp 78) (.const (.int .i64 0)) 3, some (some 76, true), false, [], false⟩,
 ⟨some 80, .move (.tmp 79), some (some 76, true), false, [], false⟩,
 ⟨some 81, .fieldAddr 96 (.tmp 2) 1, some (some 80, false), false, [], false⟩,
 ⟨some 82, .fieldAddr 31 (.tmp 81) 3, some (some 80, false), false, [], false⟩,
 ⟨some 83, .load 22 (.tmp 82), some (some 80, false), false, [], false⟩,
 ⟨some 84, .fieldAddr 44 (.tmp 3) 1, some (some 80, false), false, [], false⟩,
 ⟨some 85, .load 3 (.tmp 84), some (some 80, false), false, [], false⟩,
 ⟨some 86, .indexAddr 22 (.tmp 83) (.tmp 85), some (some 80, false), false, [], false⟩,
 ⟨some 87, .load 3 (.tmp 86), some (some 80, false), false, [], false⟩,
 ⟨some 88, .fieldAddr 96 (.tmp 2) 1, some (some 80, false), false, [], false⟩,
 ⟨some 89, .fieldAddr 31 (.tmp 88) 1, some (some 80, false), false, [], false⟩,
 ⟨some 90, .load 3 (.tmp 89), some (some 80, false), false, [], false⟩,
 ⟨some 91, .binOp .eql 3 (.tmp 87) (.tmp 90) 3, some (some 80, false), false, [], false⟩,
 ⟨some 92, .pick (.tmp 80) (.const (.bool true)) (.tmp 91), some (some 76, true), false, [], false⟩,
 ⟨some 93, .pick (.tmp 76) (.tmp 92) (.const (.bool false)), none, false, [], false⟩,
 ⟨some 8, .assign (.tmp 93), none, false, [], false⟩]))
 (.seq
 (.reg false [
 ⟨some 4, .assign (.const (.int .i64 2)), none, false, [], false⟩])
 .ret)))))))))
 (.seq
 (.block 1
 (.seq
 (.reg false [
 ⟨some 95, .move (.tmp 7), none, false, [], false⟩,
 ⟨some 96, .unOp .not 4 (.tmp 95), none, false, [], false⟩,
 ⟨some 94, .assign (.tmp 96), none, false, [], false⟩])
 (.cond (.tmp 94)
 (.seq
 (.reg false [
 ⟨some 4, .assign (.const (.int .i64 11)), none, false, [], false⟩])
 .ret)
 (.seq
 (.reg false [
 ⟨some 98, .move (.tmp 8), none, false, [], false⟩,
 ⟨some 99, .unOp .not 4 (.tmp 98), none, false, [], false⟩,
 ⟨some 97, .assign (.tmp 99), none, false, [], false⟩])
 (.cond (.tmp 97)
 (.seq
 (.reg false [
 ⟨some 4, .assign (.const (.int .i64 6)), none, false, [], false⟩])
 .ret)
 .skip)))))
 (.seq
 (.reg false [
 ⟨some 4, .assign (.const (.int .i64 0)), none, false, [], false⟩])
 .ret))))))
noncomputable def fi100 : FI := ⟨c100, 100, [.tmp 4], .plain⟩
noncomputable def c101 : XC :=
 (.seq
 (.reg false [
 ⟨some 4, .assign (.const (.int .i64 0)), none, false, [], false⟩])
 (.seq
 (.seq
 (.reg false [
 ⟨some 6, .move (.tmp 0), none, false, [], false⟩,
 ⟨some 7, .call ⟨.builtin .len, #[.tmp 6], #[33]⟩, none, false, [], false⟩,
 ⟨some 8, .move (.const (.int .i64 0)), none, false, [], false⟩])
 (.block 0
 (.loop
 (.seq
 (.reg false [
 ⟨some 9, .binOp .lss 3 (.tmp 8) (.tmp 7) 3, none, false, [], false⟩])
 (.seq
 (.cond (.tmp 9)
 .skip
 (.exit 0))
 (.seq
 (.block 1
 (.seq
 (.reg false [
 ⟨some 10, .move (.tmp 8), none, false, [], false⟩,
 ⟨some 5, .assign (.tmp 10), none, false, [], false⟩])
 (.seq
 (.reg false [
 ⟨some 11, .move (.tmp 1), none, false, [], false⟩,
 ⟨some 12, .move (.tmp 0), none, false, [], false⟩,
 ⟨some 13, .move (.tmp 5), none, false, [], false⟩,
 ⟨some 14, .indexAddr 33 (.tmp 12) (.tmp 13), none, false, [], false⟩,
 ⟨some 15, .load 31 (.tmp 14), none, false, [], false⟩,
 ⟨some 16, .call ⟨.value (.tmp 11), #[.tmp 15], #[31]⟩, none, false, [], false⟩])
 (.cond (.tmp 16)
 (.seq
 (.reg false [
 ⟨some 17, .move (.tmp 5), none, false, [], false⟩,
 ⟨some 4, .assign (.tmp 17), none, false, [], false⟩])
 .ret)
 .skip))))
 (.reg false [
 ⟨some 18, .binOp .add 3 (.tmp 8) (.const (.int .i64 1)) 3, none, false, [], false⟩,
 ⟨some 8, .move (.tmp 18), none, false, [], false⟩])))))))
 (.seq
 (.reg false [
 ⟨some 4, .assign (.const (.int .i64 (-1))), none, false, [], false⟩])
 .ret)))
noncomputable def fi101 : FI := ⟨c101, 19, [.tmp 4], .plain⟩
noncomputable def c102 : XC :=
 (.seq
 (.reg false [
 ⟨some 1, .box 31 (.tmp 0), none, false, [], false⟩,
 ⟨some 2, .assign (.const (.bool false)), none, false, [], false⟩])
 (.seq
 (.reg false [
 ⟨some 3, .fieldAddr 31 (.tmp 1) 0, none, false, [], false⟩,
 ⟨some 4, .load 9 (.tmp 3), none, false, [], false⟩,
 ⟨some 5, .binOp .eql 9 (.tmp 4) (.const (.string ⟨#[109, 97, 105, 110]⟩)) 9, none, false, [], false⟩,
 ⟨some 2, .assign (.tmp 5), none, false, [], false⟩])
 .ret))
noncomputable def fi102 : FI := ⟨c102, 6, [.tmp 2], .plain⟩
noncomputable def c103 : XC :=
 (.seq
 (.reg false [
 ⟨some 2, .move (.tmp 0), none, false, [], false⟩,
 ⟨some 3, .binOp .neq 3 (.tmp 2) (.const (.int .i64 0)) 3, none, false, [], false⟩])
 (.cond (.tmp 3)
 (.reg false [
 ⟨some 4, .move (.tmp 0), none, false, [], false⟩,
 ⟨some 5, .build 102 #[(0, .const (.int .i64 2)), (1, .tmp 4)], none, false, [], false⟩,
 ⟨some 6, .makeInterface 102 (.tmp 5), none, false, [], false⟩,
 ⟨none, .panic (.tmp 6), none, false, [], false⟩])
 .skip))
noncomputable def fi103 : FI := ⟨c103, 7, [], .plain⟩
noncomputable def c104 : XC :=
 (.seq
 (.seq
 (.reg false [
 ⟨some 2, .move (.tmp 0), none, false, [], false⟩,
 ⟨some 3, .nilCheck (.tmp 2), none, false, [], false⟩,
 ⟨some 4, .fieldAddr 100 (.tmp 3) 2, none, false, [], false⟩,
 ⟨some 5, .load 3 (.tmp 4), none, false, [], false⟩,
 ⟨some 6, .binOp .lss 3 (.tmp 5) (.const (.int .i64 1)) 3, none, false, [], false⟩])
 (.cond (.tmp 6)
 (.reg false [
 ⟨some 7, .build 102 #[(0, .const (.int .i64 3)), (1, .const (.int .i64 0))], none, false, [], false⟩,
 ⟨some 8, .makeInterface 102 (.tmp 7), none, false, [], false⟩,
 ⟨none, .panic (.tmp 8), none, false, [], false⟩])
 .skip))
 (.reg false [
 ⟨some 9, .move (.tmp 0), none, false, [], false⟩,
 ⟨some 10, .nilCheck (.tmp 9), none, false, [], false⟩,
 ⟨some 11, .fieldAddr 100 (.tmp 10) 2, none, false, [], false⟩,
 ⟨some 12, .load 3 (.tmp 11), none, false, [], false⟩,
 ⟨some 13, .binOp .sub 3 (.tmp 12) (.const (.int .i64 1)) 3, none, false, [], false⟩,
 ⟨some 14, .nilCheck (.tmp 9), none, false, [], false⟩,
 ⟨some 15, .fieldAddr 100 (.tmp 14) 2, none, false, [], false⟩,
 ⟨none, .store 3 (.tmp 15) (.tmp 13), none, false, [], false⟩]))
noncomputable def fi104 : FI := ⟨c104, 16, [], .plain⟩
noncomputable def c105 : XC :=
 (.seq
 (.reg false [
 ⟨some 4, .box 24 (.tmp 1), none, false, [], false⟩])
 (.seq
 (.reg false [
 ⟨some 6, .assign (.const (.slice none 0 0)), none, false, [], false⟩])
 (.seq
 (.seq
 (.reg false [
 ⟨some 10, .fieldAddr 24 (.tmp 4) 7, none, false, [], false⟩,
 ⟨some 11, .load 22 (.tmp 10), none, false, [], false⟩,
 ⟨some 12, .call ⟨.builtin .len, #[.tmp 11], #[22]⟩, none, false, [], false⟩,
 ⟨some 13, .move (.const (.int .i64 0)), none, false, [], false⟩])
 (.block 0
 (.loop
 (.seq
 (.reg false [
 ⟨some 14, .binOp .lss 3 (.tmp 13) (.tmp 12) 3, none, false, [], false⟩])
 (.seq
 (.cond (.tmp 14)
 .skip
 (.exit 0))
 (.seq
 (.block 1
 (.seq
 (.reg false [
 ⟨some 15, .indexAddr 22 (.tmp 11) (.tmp 13), none, false, [], false⟩,
 ⟨some 16, .load 3 (.tmp 15), none, false, [], false⟩,
 ⟨some 8, .assign (.tmp 16), none, false, [], false⟩])
 (.reg false [
 ⟨some 17, .move (.tmp 6), none, false, [], false⟩,
 ⟨some 18, .move (.tmp 2), none, false, [], false⟩,
 ⟨some 19, .move (.tmp 8), none, false, [], false⟩,
 ⟨some 20, .indexAddr 22 (.tmp 18) (.tmp 19), none, false, [], false⟩,
 ⟨some 21, .load 3 (.tmp 20), none, false, [], false⟩,
 ⟨some 22, .buildSlice 22 1 #[(0, .tmp 21)], none, false, [], false⟩,
 ⟨some 23, .call ⟨.builtin .append, #[.tmp 17, .tmp 22], #[22, 22]⟩, none, false, [], false⟩,
 ⟨some 6, .assign (.tmp 23), none, false, [], false⟩])))
 (.reg false [
 ⟨some 24, .binOp .add 3 (.tmp 13) (.const (.int .i64 1)) 3, none, false, [], false⟩,
 ⟨some 13, .move (.tmp 24), none, false, [], false⟩])))))))
 (.seq
 (.reg false [
 ⟨some 25, .move (.tmp 0), none, false, [], false⟩,
 ⟨some 26, .fieldAddr 24 (.tmp 4) 5, none, false, [], false⟩,
 ⟨some 27, .load 3 (.tmp 26), none, false, [], false⟩,
 ⟨some 28, .move (.tmp 6), none, false, [], false⟩,
 ⟨some 29, .call ⟨.value (.func 64), #[.tmp 25, .tmp 27, .tmp 28], #[98, 3, 22]⟩, none, false, [], false⟩,
 ⟨some 9, .assign (.tmp 29), none, false, [], false⟩])
 (.seq
 (.reg false [
 ⟨some 30, .fieldAddr 24 (.tmp 4) 2, none, false, [], false⟩,
 ⟨some 31, .load 3 (.tmp 30), none, false, [], false⟩,
 ⟨some 32, .binOp .geq 3 (.tmp 31) (.const (.int .i64 0)) 3, none, false, [], false⟩])
 (.cond (.tmp 32)
 (.reg false [
 ⟨some 33, .move (.tmp 2), none, false, [], false⟩,
 ⟨some 34, .fieldAddr 24 (.tmp 4) 2, none, false, [], false⟩,
 ⟨some 35, .load 3 (.tmp 34), none, false, [], false⟩,
 ⟨some 36, .move (.tmp 9), none, false, [], false⟩,
 ⟨some 37, .indexAddr 22 (.tmp 33) (.tmp 35), none, false, [], false⟩,
 ⟨none, .store 3 (.tmp 37) (.tmp 36), none, false, [], false⟩])
 .skip))))))
noncomputable def fi105 : FI := ⟨c105, 38, [], .plain⟩
end Go.Proofs.AmEnv
