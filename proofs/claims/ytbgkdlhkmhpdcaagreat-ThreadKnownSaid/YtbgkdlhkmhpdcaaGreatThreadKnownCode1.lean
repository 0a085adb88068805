/- The code of this program's functions, as the abstract machine goes over it. Conditions: none. -/
import Derived.Test.YtbgkdlhkmhpdcaaGreatThreadKnownCode0
set_option maxRecDepth 100000
namespace Go.Proofs.AmEnv
open Go Go.AM
noncomputable def c176 : XC :=
 (.seq
 (.reg false [
 ⟨some 1, .box 46 (.tmp 0), none, false, [], false⟩,
 ⟨some 2, .assign (.const (.bool false)), none, false, [], false⟩])
 (.seq
 (.seq
 (.reg false [
 ⟨some 3, .fieldAddr 46 (.tmp 1) 0, none, false, [], false⟩,
 ⟨some 4, .load 3 (.tmp 3), none, false, [], false⟩])
 (.block 0
 (.seq
 (.reg false [
 ⟨some 6, .binOp .eql 3 (.tmp 4) (.const (.int .i64 3)) 3, none, false, [], false⟩,
 ⟨some 5, .assign (.tmp 6), none, false, [], false⟩])
 (.cond (.tmp 5)
 (.seq
 (.reg false [
 ⟨some 7, .fieldAddr 46 (.tmp 1) 6, none, false, [], false⟩,
 ⟨some 8, .load 9 (.tmp 7), none, false, [], false⟩,
 ⟨some 9, .binOp .neq 9 (.tmp 8) (.const (.string ⟨#[]⟩)) 9, none, false, [], false⟩,
 ⟨some 10, .move (.tmp 9), none, false, [], false⟩,
 ⟨some 11, .fieldAddr 46 (.tmp 1) 6, some (some 10, true), false, [], false⟩,
 ⟨some 12, .load 9 (.tmp 11), some (some 10, true), false, [], false⟩,
 ⟨some 13, .call ⟨.value (.func 205), #[.tmp 12, .const (.string ⟨#[32]⟩)], #[9, 9]⟩, some (some 10, true), false, [], false⟩,
 ⟨some 14, .unOp .not 4 (.tmp 13), some (some 10, true), false, [], false⟩,
 ⟨some 15, .pick (.tmp 10) (.tmp 14) (.const (.bool false)), none, false, [], false⟩,
 ⟨some 16, .move (.tmp 15), none, false, [], false⟩,
 ⟨some 17, .fieldAddr 46 (.tmp 1) 6, some (some 16, true), false, [], false⟩,
 ⟨some 18, .load 9 (.tmp 17), some (some 16, true), false, [], false⟩,
 ⟨some 19, .binOp .add 9 (.const (.string ⟨#[32]⟩)) (.tmp 18) 9, some (some 16, true), false, [], false⟩,
 ⟨some 20, .binOp .add 9 (.tmp 19) (.const (.string ⟨#[32]⟩)) 9, some (some 16, true), false, [], false⟩,
 ⟨some 21, .call ⟨.value (.func 205), #[.const (.string ⟨#[32, 43, 32, 45, 32, 42, 32, 47, 32, 37, 32, 38, 32, 124, 32, 94, 32, 60, 60, 32, 62, 62, 32, 61, 61, 32, 33, 61, 32, 60, 32, 60, 61, 32, 62, 32, 62, 61, 32]⟩), .tmp 20], #[9, 9]⟩, some (some 16, true), false, [], false⟩,
 ⟨some 22, .pick (.tmp 16) (.tmp 21) (.const (.bool false)), none, false, [], false⟩,
 ⟨some 2, .assign (.tmp 22), none, false, [], false⟩])
 .ret)
 (.seq
 (.reg false [
 ⟨some 24, .binOp .eql 3 (.tmp 4) (.const (.int .i64 4)) 3, none, false, [], false⟩,
 ⟨some 23, .assign (.tmp 24), none, false, [], false⟩])
 (.cond (.tmp 23)
 (.seq
 (.reg false [
 ⟨some 25, .fieldAddr 46 (.tmp 1) 1, none, false, [], false⟩,
 ⟨some 26, .load 3 (.tmp 25), none, false, [], false⟩,
 ⟨some 27, .binOp .geq 3 (.tmp 26) (.const (.int .i64 1)) 3, none, false, [], false⟩,
 ⟨some 28, .move (.tmp 27), none, false, [], false⟩,
 ⟨some 29, .fieldAddr 46 (.tmp 1) 1, some (some 28, true), false, [], false⟩,
 ⟨some 30, .load 3 (.tmp 29), some (some 28, true), false, [], false⟩,
 ⟨some 31, .binOp .leq 3 (.tmp 30) (.const (.int .i64 3)) 3, some (some 28, true), false, [], false⟩,
 ⟨some 32, .pick (.tmp 28) (.tmp 31) (.const (.bool false)), none, false, [], false⟩,
 ⟨some 2, .assign (.tmp 32), none, false, [], false⟩])
 .ret)
 .skip))))))
 (.seq
 (.reg false [
 ⟨some 33, .fieldAddr 46 (.tmp 1) 0, none, false, [], false⟩,
 ⟨some 34, .load 3 (.tmp 33), none, false, [], false⟩,
 ⟨some 35, .binOp .geq 3 (.tmp 34) (.const (.int .i64 1)) 3, none, false, [], false⟩,
 ⟨some 36, .move (.tmp 35), none, false, [], false⟩,
 ⟨some 37, .fieldAddr 46 (.tmp 1) 0, some (some 36, true), false, [], false⟩,
 ⟨some 38, .load 3 (.tmp 37), some (some 36, true), false, [], false⟩,
 ⟨some 39, .binOp .leq 3 (.tmp 38) (.const (.int .i64 11)) 3, some (some 36, true), false, [], false⟩,
 ⟨some 40, .pick (.tmp 36) (.tmp 39) (.const (.bool false)), none, false, [], false⟩,
 ⟨some 2, .assign (.tmp 40), none, false, [], false⟩])
 .ret)))
noncomputable def fi176 : FI := ⟨c176, 41, [.tmp 2], .plain⟩
noncomputable def c177 : XC :=
 (.seq
 (.reg false [
 ⟨some 2, .box 107 (.tmp 0), none, false, [], false⟩,
 ⟨some 3, .box 46 (.tmp 1), none, false, [], false⟩,
 ⟨some 4, .assign (.const (.bool false)), none, false, [], false⟩])
 (.seq
 (.seq
 (.reg false [
 ⟨some 8, .load 46 (.tmp 3), none, false, [], false⟩,
 ⟨some 9, .call ⟨.value (.func 131), #[.tmp 8], #[46]⟩, none, false, [], false⟩,
 ⟨some 10, .call ⟨.builtin .len, #[.tmp 9], #[22]⟩, none, false, [], false⟩,
 ⟨some 11, .move (.const (.int .i64 0)), none, false, [], false⟩])
 (.block 0
 (.loop
 (.seq
 (.reg false [
 ⟨some 12, .binOp .lss 3 (.tmp 11) (.tmp 10) 3, none, false, [], false⟩])
 (.seq
 (.cond (.tmp 12)
 .skip
 (.exit 0))
 (.seq
 (.block 1
 (.seq
 (.reg false [
 ⟨some 13, .indexAddr 22 (.tmp 9) (.tmp 11), none, false, [], false⟩,
 ⟨some 14, .load 3 (.tmp 13), none, false, [], false⟩,
 ⟨some 6, .assign (.tmp 14), none, false, [], false⟩])
 (.seq
 (.reg false [
 ⟨some 15, .move (.tmp 6), none, false, [], false⟩,
 ⟨some 16, .fieldAddr 107 (.tmp 2) 1, none, false, [], false⟩,
 ⟨some 17, .fieldAddr 25 (.tmp 16) 3, none, false, [], false⟩,
 ⟨some 18, .load 22 (.tmp 17), none, false, [], false⟩,
 ⟨some 19, .call ⟨.builtin .len, #[.tmp 18], #[22]⟩, none, false, [], false⟩,
 ⟨some 20, .call ⟨.value (.func 179), #[.tmp 15, .tmp 19], #[3, 3]⟩, none, false, [], false⟩,
 ⟨some 21, .unOp .not 4 (.tmp 20), none, false, [], false⟩])
 (.cond (.tmp 21)
 (.seq
 (.reg false [
 ⟨some 4, .assign (.const (.bool false)), none, false, [], false⟩])
 .ret)
 .skip))))
 (.reg false [
 ⟨some 22, .binOp .add 3 (.tmp 11) (.const (.int .i64 1)) 3, none, false, [], false⟩,
 ⟨some 11, .move (.tmp 22), none, false, [], false⟩])))))))
 (.seq
 (.seq
 (.reg false [
 ⟨some 23, .load 46 (.tmp 3), none, false, [], false⟩,
 ⟨some 24, .call ⟨.value (.func 80), #[.tmp 23], #[46]⟩, none, false, [], false⟩,
 ⟨some 7, .assign (.tmp 24), none, false, [], false⟩])
 (.seq
 (.reg false [
 ⟨some 25, .fieldAddr 46 (.tmp 3) 0, none, false, [], false⟩,
 ⟨some 26, .load 3 (.tmp 25), none, false, [], false⟩,
 ⟨some 27, .binOp .neq 3 (.tmp 26) (.const (.int .i64 9)) 3, none, false, [], false⟩,
 ⟨some 28, .move (.tmp 27), none, false, [], false⟩,
 ⟨some 29, .move (.tmp 7), some (some 28, false), false, [], false⟩,
 ⟨some 30, .binOp .geq 3 (.tmp 29) (.const (.int .i64 0)) 3, some (some 28, false), false, [], false⟩,
 ⟨some 31, .pick (.tmp 28) (.const (.bool true)) (.tmp 30), none, false, [], false⟩,
 ⟨some 32, .move (.tmp 31), none, false, [], false⟩,
 ⟨some 33, .move (.tmp 7), some (some 32, true), false, [], false⟩,
 ⟨some 34, .binOp .neq 3 (.tmp 33) (.const (.int .i64 (-1))) 3, some (some 32, true), false, [], false⟩,
 ⟨some 35, .pick (.tmp 32) (.tmp 34) (.const (.bool false)), none, false, [], false⟩,
 ⟨some 36, .move (.tmp 35), none, false, [], false⟩,
 ⟨some 37, .move (.tmp 7), some (some 36, true), false, [], false⟩,
 ⟨some 38, .fieldAddr 107 (.tmp 2) 1, some (some 36, true), false, [], false⟩,
 ⟨some 39, .fieldAddr 25 (.tmp 38) 3, some (some 36, true), false, [], false⟩,
 ⟨some 40, .load 22 (.tmp 39), some (some 36, true), false, [], false⟩,
 ⟨some 41, .call ⟨.builtin .len, #[.tmp 40], #[22]⟩, some (some 36, true), false, [], false⟩,
 ⟨some 42, .call ⟨.value (.func 179), #[.tmp 37, .tmp 41], #[3, 3]⟩, some (some 36, true), false, [], false⟩,
 ⟨some 43, .unOp .not 4 (.tmp 42), some (some 36, true), false, [], false⟩,
 ⟨some 44, .pick (.tmp 36) (.tmp 43) (.const (.bool false)), none, false, [], false⟩])
 (.cond (.tmp 44)
 (.seq
 (.reg false [
 ⟨some 4, .assign (.const (.bool false)), none, false, [], false⟩])
 .ret)
 .skip)))
 (.seq
 (.seq
 (.reg false [
 ⟨some 45, .buildSlice 22 7 #[(0, .const (.int .i64 1)), (1, .const (.int .i64 2)), (2, .const (.int .i64 3)), (3, .const (.int .i64 4)), (4, .const (.int .i64 5)), (5, .const (.int .i64 7)), (6, .const (.int .i64 10))], none, false, [], false⟩,
 ⟨some 46, .fieldAddr 46 (.tmp 3) 0, none, false, [], false⟩,
 ⟨some 47, .load 3 (.tmp 46), none, false, [], false⟩,
 ⟨some 48, .call ⟨.value (.func 206), #[.tmp 45, .tmp 47], #[22, 3]⟩, none, false, [], false⟩,
 ⟨some 49, .move (.tmp 48), none, false, [], false⟩,
 ⟨some 50, .fieldAddr 46 (.tmp 3) 2, some (some 49, true), false, [], false⟩,
 ⟨some 51, .load 3 (.tmp 50), some (some 49, true), false, [], false⟩,
 ⟨some 52, .binOp .lss 3 (.tmp 51) (.const (.int .i64 0)) 3, some (some 49, true), false, [], false⟩,
 ⟨some 53, .pick (.tmp 49) (.tmp 52) (.const (.bool false)), none, false, [], false⟩])
 (.cond (.tmp 53)
 (.seq
 (.reg false [
 ⟨some 4, .assign (.const (.bool false)), none, false, [], false⟩])
 .ret)
 .skip))
 (.seq
 (.seq
 (.reg false [
 ⟨some 54, .fieldAddr 46 (.tmp 3) 0, none, false, [], false⟩,
 ⟨some 55, .load 3 (.tmp 54), none, false, [], false⟩])
 (.block 2
 (.seq
 (.reg false [
 ⟨some 57, .binOp .eql 3 (.tmp 55) (.const (.int .i64 1)) 3, none, false, [], false⟩,
 ⟨some 56, .assign (.tmp 57), none, false, [], false⟩])
 (.cond (.tmp 56)
 (.seq
 (.reg true [
 ⟨some 58, .fieldAddr 107 (.tmp 2) 1, none, false, [], false⟩,
 ⟨some 59, .fieldAddr 25 (.tmp 58) 3, none, false, [], false⟩,
 ⟨some 60, .load 22 (.tmp 59), none, false, [], false⟩,
 ⟨some 61, .fieldAddr 46 (.tmp 3) 2, none, false, [], false⟩,
 ⟨some 62, .load 3 (.tmp 61), none, false, [], false⟩,
 ⟨some 63, .indexAddr 22 (.tmp 60) (.tmp 62), none, false, [], false⟩,
 ⟨some 64, .load 3 (.tmp 63), none, false, [], false⟩,
 ⟨some 65, .fieldAddr 46 (.tmp 3) 5, none, false, [], false⟩,
 ⟨some 66, .load 3 (.tmp 65), none, false, [], false⟩,
 ⟨some 67, .call ⟨.value (.func 195), #[.tmp 64, .tmp 66], #[3, 3]⟩, none, true, [false, false, true, true], false⟩,
 ⟨some 68, .fieldAddr 46 (.tmp 3) 5, none, false, [], false⟩,
 ⟨some 69, .load 3 (.tmp 68), none, false, [], true⟩,
 ⟨some 70, .binOp .eql 3 (.tmp 67) (.tmp 69) 3, none, false, [], false⟩,
 ⟨some 4, .assign (.tmp 70), none, false, [], false⟩])
 .ret)
 (.seq
 (.seq
 (.reg false [
 ⟨some 72, .binOp .eql 3 (.tmp 55) (.const (.int .i64 5)) 3, none, false, [], false⟩,
 ⟨some 71, .assign (.tmp 72), none, false, [], false⟩])
 (.cond (.tmp 71)
 .skip
 (.reg false [
 ⟨some 73, .binOp .eql 3 (.tmp 55) (.const (.int .i64 6)) 3, none, false, [], false⟩,
 ⟨some 71, .assign (.tmp 73), none, false, [], false⟩])))
 (.cond (.tmp 71)
 (.seq
 (.reg false [
 ⟨some 74, .load 107 (.tmp 2), none, false, [], false⟩,
 ⟨some 75, .fieldAddr 46 (.tmp 3) 5, none, false, [], false⟩,
 ⟨some 76, .load 3 (.tmp 75), none, false, [], false⟩,
 ⟨some 77, .call ⟨.value (.func 207), #[.tmp 74, .tmp 76, .const (.bool true)], #[107, 3, 4]⟩, none, false, [], false⟩,
 ⟨some 4, .assign (.tmp 77), none, false, [], false⟩])
 .ret)
 (.seq
 (.seq
 (.reg false [
 ⟨some 79, .binOp .eql 3 (.tmp 55) (.const (.int .i64 7)) 3, none, false, [], false⟩,
 ⟨some 78, .assign (.tmp 79), none, false, [], false⟩])
 (.cond (.tmp 78)
 .skip
 (.reg false [
 ⟨some 80, .binOp .eql 3 (.tmp 55) (.const (.int .i64 8)) 3, none, false, [], false⟩,
 ⟨some 78, .assign (.tmp 80), none, false, [], false⟩])))
 (.cond (.tmp 78)
 (.seq
 (.reg false [
 ⟨some 81, .load 107 (.tmp 2), none, false, [], false⟩,
 ⟨some 82, .fieldAddr 46 (.tmp 3) 5, none, false, [], false⟩,
 ⟨some 83, .load 3 (.tmp 82), none, false, [], false⟩,
 ⟨some 84, .call ⟨.value (.func 207), #[.tmp 81, .tmp 83, .const (.bool false)], #[107, 3, 4]⟩, none, false, [], false⟩,
 ⟨some 4, .assign (.tmp 84), none, false, [], false⟩])
 .ret)
 (.seq
 (.reg false [
 ⟨some 86, .binOp .eql 3 (.tmp 55) (.const (.int .i64 9)) 3, none, false, [], false⟩,
 ⟨some 85, .assign (.tmp 86), none, false, [], false⟩])
 (.cond (.tmp 85)
 (.seq
 (.reg true [
 ⟨some 87, .fieldAddr 46 (.tmp 3) 5, none, false, [], false⟩,
 ⟨some 88, .load 3 (.tmp 87), none, false, [], false⟩,
 ⟨some 89, .fieldAddr 107 (.tmp 2) 0, none, false, [], false⟩,
 ⟨some 90, .fieldAddr 36 (.tmp 89) 1, none, false, [], false⟩,
 ⟨some 91, .load 33 (.tmp 90), none, false, [], false⟩,
 ⟨some 92, .call ⟨.builtin .len, #[.tmp 91], #[33]⟩, none, false, [], false⟩,
 ⟨some 93, .call ⟨.value (.func 179), #[.tmp 88, .tmp 92], #[3, 3]⟩, none, false, [true, true, true, true, true, true, true, true, true, true, true, true, true, true, true, true, true, true, true, true, true], false⟩,
 ⟨some 94, .move (.tmp 93), none, false, [], false⟩,
 ⟨some 95, .fieldAddr 107 (.tmp 2) 0, some (some 94, true), false, [], false⟩,
 ⟨some 96, .fieldAddr 36 (.tmp 95) 1, some (some 94, true), false, [], false⟩,
 ⟨some 97, .load 33 (.tmp 96), some (some 94, true), false, [], false⟩,
 ⟨some 98, .fieldAddr 46 (.tmp 3) 5, some (some 94, true), false, [], false⟩,
 ⟨some 99, .load 3 (.tmp 98), some (some 94, true), false, [], false⟩,
 ⟨some 100, .indexAddr 33 (.tmp 97) (.tmp 99), some (some 94, true), false, [], false⟩,
 ⟨some 101, .fieldAddr 25 (.tmp 100) 3, some (some 94, true), false, [], false⟩,
 ⟨some 102, .load 22 (.tmp 101), some (some 94, true), false, [], false⟩,
 ⟨some 103, .call ⟨.builtin .len, #[.tmp 102], #[22]⟩, some (some 94, true), false, [], false⟩,
 ⟨some 104, .fieldAddr 107 (.tmp 2) 0, some (some 94, true), false, [], false⟩,
 ⟨some 105, .fieldAddr 36 (.tmp 104) 1, some (some 94, true), false, [], false⟩,
 ⟨some 106, .load 33 (.tmp 105), some (some 94, true), false, [], false⟩,
 ⟨some 107, .fieldAddr 46 (.tmp 3) 5, some (some 94, true), false, [], false⟩,
 ⟨some 108, .load 3 (.tmp 107), some (some 94, true), false, [], false⟩,
 ⟨some 109, .indexAddr 33 (.tmp 106) (.tmp 108), some (some 94, true), false, [], false⟩,
 ⟨some 110, .fieldAddr 25 (.tmp 109) 2, some (some 94, true), false, [], false⟩,
 ⟨some 111, .load 3 (.tmp 110), some (some 94, true), false, [], false⟩,
 ⟨some 112, .binOp .geq 3 (.tmp 103) (.tmp 111) 3, some (some 94, true), false, [], false⟩,
 ⟨some 113, .pick (.tmp 94) (.tmp 112) (.const (.bool false)), none, false, [], false⟩,
 ⟨some 4, .assign (.tmp 113), none, false, [], false⟩])
 .ret)
 .skip))))))))))
 (.seq
 (.reg false [
 ⟨some 4, .assign (.const (.bool true)), none, false, [], false⟩])
 .ret))))))
noncomputable def fi177 : FI := ⟨c177, 114, [.tmp 4], .plain⟩
noncomputable def c178 : XC :=
 (.seq
 (.reg false [
 ⟨some 2, .box 107 (.tmp 0), none, false, [], false⟩,
 ⟨some 3, .box 46 (.tmp 1), none, false, [], false⟩,
 ⟨some 4, .assign (.const (.bool false)), none, false, [], false⟩])
 (.seq
 (.reg false [
 ⟨some 7, .makeFunc (.func 208) #[] #[.tmp 2], none, false, [], false⟩,
 ⟨some 5, .assign (.tmp 7), none, false, [], false⟩])
 (.seq
 (.seq
 (.reg false [
 ⟨some 8, .fieldAddr 46 (.tmp 3) 0, none, false, [], false⟩,
 ⟨some 9, .load 3 (.tmp 8), none, false, [], false⟩])
 (.block 0
 (.seq
 (.reg false [
 ⟨some 11, .binOp .eql 3 (.tmp 9) (.const (.int .i64 2)) 3, none, false, [], false⟩,
 ⟨some 10, .assign (.tmp 11), none, false, [], false⟩])
 (.cond (.tmp 10)
 (.seq
 (.reg true [
 ⟨some 12, .move (.tmp 5), none, false, [], false⟩,
 ⟨some 13, .fieldAddr 46 (.tmp 3) 3, none, false, [], false⟩,
 ⟨some 14, .load 3 (.tmp 13), none, false, [], false⟩,
 ⟨some 15, .fieldAddr 107 (.tmp 2) 1, none, false, [], false⟩,
 ⟨some 16, .fieldAddr 25 (.tmp 15) 3, none, false, [], false⟩,
 ⟨some 17, .load 22 (.tmp 16), none, false, [], false⟩,
 ⟨some 18, .fieldAddr 46 (.tmp 3) 2, none, false, [], false⟩,
 ⟨some 19, .load 3 (.tmp 18), none, false, [], false⟩,
 ⟨some 20, .indexAddr 22 (.tmp 17) (.tmp 19), none, false, [], false⟩,
 ⟨some 21, .load 3 (.tmp 20), none, false, [], false⟩,
 ⟨some 22, .call ⟨.value (.tmp 12), #[.tmp 14, .tmp 21], #[3, 3]⟩, none, false, [true], false⟩,
 ⟨some 4, .assign (.tmp 22), none, false, [], false⟩])
 .ret)
 (.seq
 (.reg false [
 ⟨some 24, .binOp .eql 3 (.tmp 9) (.const (.int .i64 3)) 3, none, false, [], false⟩,
 ⟨some 23, .assign (.tmp 24), none, false, [], false⟩])
 (.cond (.tmp 23)
 (.seq
 (.reg false [
 ⟨some 25, .fieldAddr 46 (.tmp 3) 1, none, false, [], false⟩,
 ⟨some 26, .load 3 (.tmp 25), none, false, [], false⟩,
 ⟨some 6, .assign (.tmp 26), none, false, [], false⟩])
 (.seq
 (.seq
 (.reg false [
 ⟨some 27, .fieldAddr 46 (.tmp 3) 6, none, false, [], false⟩,
 ⟨some 28, .load 9 (.tmp 27), none, false, [], false⟩,
 ⟨some 29, .binOp .add 9 (.const (.string ⟨#[32]⟩)) (.tmp 28) 9, none, false, [], false⟩,
 ⟨some 30, .binOp .add 9 (.tmp 29) (.const (.string ⟨#[32]⟩)) 9, none, false, [], false⟩,
 ⟨some 31, .call ⟨.value (.func 205), #[.const (.string ⟨#[32, 61, 61, 32, 33, 61, 32, 60, 32, 60, 61, 32, 62, 32, 62, 61, 32]⟩), .tmp 30], #[9, 9]⟩, none, false, [], false⟩])
 (.cond (.tmp 31)
 (.reg false [
 ⟨some 6, .assign (.const (.int .i64 1)), none, false, [], false⟩])
 .skip))
 (.seq
 (.reg false [
 ⟨some 32, .move (.tmp 5), none, false, [], false⟩,
 ⟨some 33, .fieldAddr 46 (.tmp 3) 3, none, false, [], false⟩,
 ⟨some 34, .load 3 (.tmp 33), none, false, [], false⟩,
 ⟨some 35, .fieldAddr 46 (.tmp 3) 1, none, false, [], false⟩,
 ⟨some 36, .load 3 (.tmp 35), none, false, [], false⟩,
 ⟨some 37, .call ⟨.value (.tmp 32), #[.tmp 34, .tmp 36], #[3, 3]⟩, none, false, [], false⟩,
 ⟨some 38, .move (.tmp 37), none, false, [], false⟩,
 ⟨some 39, .move (.tmp 5), some (some 38, true), false, [], false⟩,
 ⟨some 40, .fieldAddr 46 (.tmp 3) 4, some (some 38, true), false, [], false⟩,
 ⟨some 41, .load 3 (.tmp 40), some (some 38, true), false, [], false⟩,
 ⟨some 42, .fieldAddr 46 (.tmp 3) 1, some (some 38, true), false, [], false⟩,
 ⟨some 43, .load 3 (.tmp 42), some (some 38, true), false, [], false⟩,
 ⟨some 44, .call ⟨.value (.tmp 39), #[.tmp 41, .tmp 43], #[3, 3]⟩, some (some 38, true), false, [], false⟩,
 ⟨some 45, .pick (.tmp 38) (.tmp 44) (.const (.bool false)), none, false, [], false⟩,
 ⟨some 46, .move (.tmp 45), none, false, [], false⟩,
 ⟨some 47, .move (.tmp 5), some (some 46, true), false, [], false⟩,
 ⟨some 48, .fieldAddr 46 (.tmp 3) 2, some (some 46, true), false, [], false⟩,
 ⟨some 49, .load 3 (.tmp 48), some (some 46, true), false, [], false⟩,
 ⟨some 50, .move (.tmp 6), some (some 46, true), false, [], false⟩,
 ⟨some 51, .call ⟨.value (.tmp 47), #[.tmp 49, .tmp 50], #[3, 3]⟩, some (some 46, true), false, [], false⟩,
 ⟨some 52, .pick (.tmp 46) (.tmp 51) (.const (.bool false)), none, false, [], false⟩,
 ⟨some 4, .assign (.tmp 52), none, false, [], false⟩])
 .ret)))
 (.seq
 (.reg false [
 ⟨some 54, .binOp .eql 3 (.tmp 9) (.const (.int .i64 4)) 3, none, false, [], false⟩,
 ⟨some 53, .assign (.tmp 54), none, false, [], false⟩])
 (.cond (.tmp 53)
 (.seq
 (.reg true [
 ⟨some 58, .fieldAddr 46 (.tmp 3) 1, none, false, [], false⟩,
 ⟨some 59, .load 3 (.tmp 58), none, false, [], false⟩,
 ⟨some 60, .call ⟨.value (.func 209), #[.tmp 59], #[3]⟩, none, true, [false, false, false, true, true], false⟩,
 ⟨some 55, .move (.tmp 5), none, false, [], false⟩,
 ⟨some 56, .fieldAddr 46 (.tmp 3) 2, none, false, [], false⟩,
 ⟨some 57, .load 3 (.tmp 56), none, false, [], true⟩,
 ⟨some 61, .call ⟨.value (.tmp 55), #[.tmp 57, .tmp 60], #[3, 3]⟩, none, false, [true], false⟩,
 ⟨some 4, .assign (.tmp 61), none, false, [], false⟩])
 .ret)
 (.seq
 (.reg false [
 ⟨some 63, .binOp .eql 3 (.tmp 9) (.const (.int .i64 5)) 3, none, false, [], false⟩,
 ⟨some 62, .assign (.tmp 63), none, false, [], false⟩])
 (.cond (.tmp 62)
 (.seq
 (.reg true [
 ⟨some 64, .move (.tmp 5), none, false, [], false⟩,
 ⟨some 65, .fieldAddr 46 (.tmp 3) 3, none, false, [], false⟩,
 ⟨some 66, .load 3 (.tmp 65), none, false, [], false⟩,
 ⟨some 67, .call ⟨.value (.tmp 64), #[.tmp 66, .const (.int .i64 2)], #[3, 3]⟩, none, false, [true, true, true, true, true, true, true, true, true, true, true, true, true, true, true, true], false⟩,
 ⟨some 68, .move (.tmp 67), none, false, [], false⟩,
 ⟨some 72, .fieldAddr 107 (.tmp 2) 0, some (some 68, true), false, [], false⟩,
 ⟨some 73, .fieldAddr 36 (.tmp 72) 0, some (some 68, true), false, [], false⟩,
 ⟨some 74, .load 34 (.tmp 73), some (some 68, true), false, [], false⟩,
 ⟨some 75, .fieldAddr 46 (.tmp 3) 5, some (some 68, true), false, [], false⟩,
 ⟨some 76, .load 3 (.tmp 75), some (some 68, true), false, [], false⟩,
 ⟨some 77, .indexAddr 34 (.tmp 74) (.tmp 76), some (some 68, true), false, [], false⟩,
 ⟨some 78, .fieldAddr 105 (.tmp 77) 1, some (some 68, true), false, [], false⟩,
 ⟨some 79, .load 3 (.tmp 78), some (some 68, true), false, [], false⟩,
 ⟨some 80, .call ⟨.value (.func 209), #[.tmp 79], #[3]⟩, some (some 68, true), true, [false, false, false, true, true, true], false⟩,
 ⟨some 69, .move (.tmp 5), some (some 68, true), false, [], false⟩,
 ⟨some 70, .fieldAddr 46 (.tmp 3) 2, some (some 68, true), false, [], false⟩,
 ⟨some 71, .load 3 (.tmp 70), some (some 68, true), false, [], true⟩,
 ⟨some 81, .call ⟨.value (.tmp 69), #[.tmp 71, .tmp 80], #[3, 3]⟩, some (some 68, true), false, [true, true], false⟩,
 ⟨some 82, .pick (.tmp 68) (.tmp 81) (.const (.bool false)), none, false, [], false⟩,
 ⟨some 4, .assign (.tmp 82), none, false, [], false⟩])
 .ret)
 (.seq
 (.reg false [
 ⟨some 84, .binOp .eql 3 (.tmp 9) (.const (.int .i64 6)) 3, none, false, [], false⟩,
 ⟨some 83, .assign (.tmp 84), none, false, [], false⟩])
 (.cond (.tmp 83)
 (.seq
 (.reg true [
 ⟨some 85, .move (.tmp 5), none, false, [], false⟩,
 ⟨some 86, .fieldAddr 46 (.tmp 3) 3, none, false, [], false⟩,
 ⟨some 87, .load 3 (.tmp 86), none, false, [], false⟩,
 ⟨some 88, .call ⟨.value (.tmp 85), #[.tmp 87, .const (.int .i64 2)], #[3, 3]⟩, none, false, [true, true, true, true, true, true, true, true, true, true, true, true, true, true, true, true], false⟩,
 ⟨some 89, .move (.tmp 88), none, false, [], false⟩,
 ⟨some 93, .fieldAddr 107 (.tmp 2) 0, some (some 89, true), false, [], false⟩,
 ⟨some 94, .fieldAddr 36 (.tmp 93) 0, some (some 89, true), false, [], false⟩,
 ⟨some 95, .load 34 (.tmp 94), some (some 89, true), false, [], false⟩,
 ⟨some 96, .fieldAddr 46 (.tmp 3) 5, some (some 89, true), false, [], false⟩,
 ⟨some 97, .load 3 (.tmp 96), some (some 89, true), false, [], false⟩,
 ⟨some 98, .indexAddr 34 (.tmp 95) (.tmp 97), some (some 89, true), false, [], false⟩,
 ⟨some 99, .fieldAddr 105 (.tmp 98) 1, some (some 89, true), false, [], false⟩,
 ⟨some 100, .load 3 (.tmp 99), some (some 89, true), false, [], false⟩,
 ⟨some 101, .call ⟨.value (.func 209), #[.tmp 100], #[3]⟩, some (some 89, true), true, [false, false, false, true, true, true], false⟩,
 ⟨some 90, .move (.tmp 5), some (some 89, true), false, [], false⟩,
 ⟨some 91, .fieldAddr 46 (.tmp 3) 4, some (some 89, true), false, [], false⟩,
 ⟨some 92, .load 3 (.tmp 91), some (some 89, true), false, [], true⟩,
 ⟨some 102, .call ⟨.value (.tmp 90), #[.tmp 92, .tmp 101], #[3, 3]⟩, some (some 89, true), false, [true, true], false⟩,
 ⟨some 103, .pick (.tmp 89) (.tmp 102) (.const (.bool false)), none, false, [], false⟩,
 ⟨some 4, .assign (.tmp 103), none, false, [], false⟩])
 .ret)
 (.seq
 (.reg false [
 ⟨some 105, .binOp .eql 3 (.tmp 9) (.const (.int .i64 7)) 3, none, false, [], false⟩,
 ⟨some 104, .assign (.tmp 105), none, false, [], false⟩])
 (.cond (.tmp 104)
 (.seq
 (.reg true [
 ⟨some 106, .move (.tmp 5), none, false, [], false⟩,
 ⟨some 107, .fieldAddr 46 (.tmp 3) 2, none, false, [], false⟩,
 ⟨some 108, .load 3 (.tmp 107), none, false, [], false⟩,
 ⟨some 109, .fieldAddr 107 (.tmp 2) 0, none, false, [], false⟩,
 ⟨some 110, .fieldAddr 36 (.tmp 109) 0, none, false, [], false⟩,
 ⟨some 111, .load 34 (.tmp 110), none, false, [], false⟩,
 ⟨some 112, .fieldAddr 46 (.tmp 3) 5, none, false, [], false⟩,
 ⟨some 113, .load 3 (.tmp 112), none, false, [], false⟩,
 ⟨some 114, .indexAddr 34 (.tmp 111) (.tmp 113), none, false, [], false⟩,
 ⟨some 115, .fieldAddr 105 (.tmp 114) 1, none, false, [], false⟩,
 ⟨some 116, .load 3 (.tmp 115), none, false, [], false⟩,
 ⟨some 117, .call ⟨.value (.tmp 106), #[.tmp 108, .tmp 116], #[3, 3]⟩, none, false, [true], false⟩,
 ⟨some 4, .assign (.tmp 117), none, false, [], false⟩])
 .ret)
 (.seq
 (.reg false [
 ⟨some 119, .binOp .eql 3 (.tmp 9) (.const (.int .i64 8)) 3, none, false, [], false⟩,
 ⟨some 118, .assign (.tmp 119), none, false, [], false⟩])
 (.cond (.tmp 118)
 (.seq
 (.reg true [
 ⟨some 120, .move (.tmp 5), none, false, [], false⟩,
 ⟨some 121, .fieldAddr 46 (.tmp 3) 3, none, false, [], false⟩,
 ⟨some 122, .load 3 (.tmp 121), none, false, [], false⟩,
 ⟨some 123, .fieldAddr 107 (.tmp 2) 0, none, false, [], false⟩,
 ⟨some 124, .fieldAddr 36 (.tmp 123) 0, none, false, [], false⟩,
 ⟨some 125, .load 34 (.tmp 124), none, false, [], false⟩,
 ⟨some 126, .fieldAddr 46 (.tmp 3) 5, none, false, [], false⟩,
 ⟨some 127, .load 3 (.tmp 126), none, false, [], false⟩,
 ⟨some 128, .indexAddr 34 (.tmp 125) (.tmp 127), none, false, [], false⟩,
 ⟨some 129, .fieldAddr 105 (.tmp 128) 1, none, false, [], false⟩,
 ⟨some 130, .load 3 (.tmp 129), none, false, [], false⟩,
 ⟨some 131, .call ⟨.value (.tmp 120), #[.tmp 122, .tmp 130], #[3, 3]⟩, none, false, [true], false⟩,
 ⟨some 4, .assign (.tmp 131), none, false, [], false⟩])
 .ret)
 (.seq
 (.reg false [
 ⟨some 133, .binOp .eql 3 (.tmp 9) (.const (.int .i64 9)) 3, none, false, [], false⟩,
 ⟨some 132, .assign (.tmp 133), none, false, [], false⟩])
 (.cond (.tmp 132)
 (.seq
 (.reg false [
 ⟨some 134, .load 107 (.tmp 2), none, false, [], false⟩,
 ⟨some 135, .load 46 (.tmp 3), none, false, [], false⟩,
 ⟨some 136, .move (.tmp 5), none, false, [], false⟩,
 ⟨some 137, .call ⟨.value (.func 210), #[.tmp 134, .tmp 135, .tmp 136], #[107, 46, 183]⟩, none, false, [], false⟩,
 ⟨some 4, .assign (.tmp 137), none, false, [], false⟩])
 .ret)
 (.seq
 (.reg false [
 ⟨some 139, .binOp .eql 3 (.tmp 9) (.const (.int .i64 10)) 3, none, false, [], false⟩,
 ⟨some 138, .assign (.tmp 139), none, false, [], false⟩])
 (.cond (.tmp 138)
 (.seq
 (.reg false [
 ⟨some 140, .move (.tmp 5), none, false, [], false⟩,
 ⟨some 141, .fieldAddr 46 (.tmp 3) 2, none, false, [], false⟩,
 ⟨some 142, .load 3 (.tmp 141), none, false, [], false⟩,
 ⟨some 143, .call ⟨.value (.tmp 140), #[.tmp 142, .const (.int .i64 2)], #[3, 3]⟩, none, false, [], false⟩,
 ⟨some 4, .assign (.tmp 143), none, false, [], false⟩])
 .ret)
 (.seq
 (.reg false [
 ⟨some 145, .binOp .eql 3 (.tmp 9) (.const (.int .i64 11)) 3, none, false, [], false⟩,
 ⟨some 144, .assign (.tmp 145), none, false, [], false⟩])
 (.cond (.tmp 144)
 (.seq
 (.reg false [
 ⟨some 146, .move (.tmp 5), none, false, [], false⟩,
 ⟨some 147, .fieldAddr 46 (.tmp 3) 3, none, false, [], false⟩,
 ⟨some 148, .load 3 (.tmp 147), none, false, [], false⟩,
 ⟨some 149, .call ⟨.value (.tmp 146), #[.tmp 148, .const (.int .i64 2)], #[3, 3]⟩, none, false, [], false⟩,
 ⟨some 4, .assign (.tmp 149), none, false, [], false⟩])
 .ret)
 .skip))))))))))))))))))))))
 (.seq
 (.reg false [
 ⟨some 4, .assign (.const (.bool true)), none, false, [], false⟩])
 .ret))))
noncomputable def fi178 : FI := ⟨c178, 150, [.tmp 4], .plain⟩
noncomputable def c179 : XC :=
 (.seq
 (.reg false [
 ⟨some 4, .assign (.const (.bool false)), none, false, [], false⟩])
 (.seq
 (.reg false [
 ⟨some 5, .move (.tmp 0), none, false, [], false⟩,
 ⟨some 6, .binOp .geq 3 (.tmp 5) (.const (.int .i64 0)) 3, none, false, [], false⟩,
 ⟨some 7, .move (.tmp 6), none, false, [], false⟩,
 ⟨some 8, .move (.tmp 0), some (some 7, true), false, [], false⟩,
 ⟨some 9, .move (.tmp 1), some (some 7, true), false, [], false⟩,
 ⟨some 10, .binOp .lss 3 (.tmp 8) (.tmp 9) 3, some (some 7, true), false, [], false⟩,
 ⟨some 11, .pick (.tmp 7) (.tmp 10) (.const (.bool false)), none, false, [], false⟩,
 ⟨some 4, .assign (.tmp 11), none, false, [], false⟩])
 .ret))
noncomputable def fi179 : FI := ⟨c179, 12, [.tmp 4], .plain⟩
noncomputable def c180 : XC :=
 (.seq
 (.reg false [
 ⟨some 2, .assign (.const (.slice none 0 0)), none, false, [], false⟩])
 (.seq
 (.reg false [
 ⟨some 5, .move (.tmp 0), none, false, [], false⟩,
 ⟨some 6, .call ⟨.value (.func 53), #[.tmp 5], #[47]⟩, none, false, [], false⟩,
 ⟨some 3, .assign (.tmp 6), none, false, [], false⟩])
 (.seq
 (.seq
 (.reg false [
 ⟨some 7, .move (.tmp 3), none, false, [], false⟩,
 ⟨some 8, .call ⟨.builtin .len, #[.tmp 7], #[47]⟩, none, false, [], false⟩,
 ⟨some 9, .move (.const (.int .i64 0)), none, false, [], false⟩])
 (.block 0
 (.loop
 (.seq
 (.reg false [
 ⟨some 10, .binOp .lss 3 (.tmp 9) (.tmp 8) 3, none, false, [], false⟩])
 (.seq
 (.cond (.tmp 10)
 .skip
 (.exit 0))
 (.seq
 (.block 1
 (.seq
 (.reg false [
 ⟨some 11, .move (.tmp 9), none, false, [], false⟩,
 ⟨some 4, .assign (.tmp 11), none, false, [], false⟩])
 (.reg false [
 ⟨some 12, .move (.tmp 3), none, false, [], false⟩,
 ⟨some 13, .move (.tmp 4), none, false, [], false⟩,
 ⟨some 14, .move (.tmp 3), none, false, [], false⟩,
 ⟨some 15, .move (.tmp 4), none, false, [], false⟩,
 ⟨some 16, .indexAddr 47 (.tmp 14) (.tmp 15), none, false, [], false⟩,
 ⟨some 17, .fieldAddr 46 (.tmp 16) 7, none, false, [], false⟩,
 ⟨some 18, .load 22 (.tmp 17), none, false, [], false⟩,
 ⟨some 19, .call ⟨.value (.func 51), #[.tmp 18], #[22]⟩, none, false, [], false⟩,
 ⟨some 20, .indexAddr 47 (.tmp 12) (.tmp 13), none, false, [], false⟩,
 ⟨some 21, .fieldAddr 46 (.tmp 20) 7, none, false, [], false⟩,
 ⟨none, .store 22 (.tmp 21) (.tmp 19), none, false, [], false⟩])))
 (.reg false [
 ⟨some 22, .binOp .add 3 (.tmp 9) (.const (.int .i64 1)) 3, none, false, [], false⟩,
 ⟨some 9, .move (.tmp 22), none, false, [], false⟩])))))))
 (.seq
 (.reg false [
 ⟨some 23, .move (.tmp 3), none, false, [], false⟩,
 ⟨some 2, .assign (.tmp 23), none, false, [], false⟩])
 .ret))))
noncomputable def fi180 : FI := ⟨c180, 24, [.tmp 2], .plain⟩
noncomputable def c181 : XC :=
 (.seq
 (.reg false [
 ⟨some 4, .assign (.const (.int .i64 0)), none, false, [], false⟩])
 (.seq
 (.reg false [
 ⟨some 9, .makeMap 205 none, none, false, [], false⟩,
 ⟨some 5, .assign (.tmp 9), none, false, [], false⟩])
 (.seq
 (.reg false [
 ⟨some 6, .assign (.const (.slice none 0 0)), none, false, [], false⟩])
 (.seq
 (.block 0
 (.loop
 (.seq
 (.seq
 (.reg false [
 ⟨some 10, .move (.tmp 0), none, false, [], false⟩,
 ⟨some 11, .move (.tmp 1), none, false, [], false⟩,
 ⟨some 12, .indexAddr 154 (.tmp 10) (.tmp 11), none, false, [], false⟩,
 ⟨some 13, .load 184 (.tmp 12), none, false, [], false⟩,
 ⟨some 14, .call ⟨.value (.func 211), #[.tmp 13], #[184]⟩, none, false, [], false⟩])
 (.cond (.tmp 14)
 .skip
 (.exit 0)))
 (.block 1
 (.seq
 (.seq
 (.reg false [
 ⟨some 16, .move (.tmp 5), none, false, [], false⟩,
 ⟨some 17, .move (.tmp 1), none, false, [], false⟩,
 ⟨some 18, .lookup 205 (.tmp 16) (.tmp 17) true, none, false, [], false⟩,
 ⟨some 15, .move (.tmp 18), none, false, [], false⟩,
 ⟨some 19, .extract (.tmp 15) 0, none, false, [], false⟩,
 ⟨some 20, .extract (.tmp 15) 1, none, false, [], false⟩,
 ⟨some 7, .assign (.tmp 19), none, false, [], false⟩,
 ⟨some 8, .assign (.tmp 20), none, false, [], false⟩])
 (.seq
 (.reg false [
 ⟨some 21, .move (.tmp 8), none, false, [], false⟩])
 (.cond (.tmp 21)
 (.seq
 (.reg false [
 ⟨some 22, .move (.tmp 6), none, false, [], false⟩,
 ⟨some 23, .move (.tmp 7), none, false, [], false⟩,
 ⟨some 24, .slice 22 (.tmp 22) (some (.tmp 23)) none none, none, false, [], false⟩,
 ⟨some 25, .call ⟨.value (.func 212), #[.tmp 24], #[22]⟩, none, false, [], false⟩,
 ⟨some 4, .assign (.tmp 25), none, false, [], false⟩])
 .ret)
 .skip)))
 (.seq
 (.reg false [
 ⟨some 26, .move (.tmp 5), none, false, [], false⟩,
 ⟨some 27, .move (.tmp 1), none, false, [], false⟩,
 ⟨some 28, .move (.tmp 6), none, false, [], false⟩,
 ⟨some 29, .call ⟨.builtin .len, #[.tmp 28], #[22]⟩, none, false, [], false⟩,
 ⟨none, .mapUpdate 205 (.tmp 26) (.tmp 27) (.tmp 29), none, false, [], false⟩])
 (.seq
 (.reg false [
 ⟨some 30, .move (.tmp 6), none, false, [], false⟩,
 ⟨some 31, .move (.tmp 1), none, false, [], false⟩,
 ⟨some 32, .buildSlice 22 1 #[(0, .tmp 31)], none, false, [], false⟩,
 ⟨some 33, .call ⟨.builtin .append, #[.tmp 30, .tmp 32], #[22, 22]⟩, none, false, [], false⟩,
 ⟨some 6, .assign (.tmp 33), none, false, [], false⟩])
 (.reg false [
 ⟨some 34, .move (.tmp 0), none, false, [], false⟩,
 ⟨some 35, .move (.tmp 1), none, false, [], false⟩,
 ⟨some 36, .indexAddr 154 (.tmp 34) (.tmp 35), none, false, [], false⟩,
 ⟨some 37, .load 184 (.tmp 36), none, false, [], false⟩,
 ⟨some 38, .nilCheck (.tmp 37), none, false, [], false⟩,
 ⟨some 39, .fieldAddr 186 (.tmp 38) 1, none, false, [], false⟩,
 ⟨some 40, .fieldAddr 29 (.tmp 39) 2, none, false, [], false⟩,
 ⟨some 41, .load 3 (.tmp 40), none, false, [], false⟩,
 ⟨some 1, .assign (.tmp 41), none, false, [], false⟩]))))))))
 (.seq
 (.reg false [
 ⟨some 42, .move (.tmp 1), none, false, [], false⟩,
 ⟨some 4, .assign (.tmp 42), none, false, [], false⟩])
 .ret)))))
noncomputable def fi181 : FI := ⟨c181, 43, [.tmp 4], .plain⟩
noncomputable def c182 : XC :=
 (.seq
 (.reg false [
 ⟨some 2, .assign (.const (.slice none 0 0)), none, false, [], false⟩])
 (.seq
 (.seq
 (.reg false [
 ⟨some 3, .move (.tmp 0), none, false, [], false⟩,
 ⟨some 4, .nilCheck (.tmp 3), none, false, [], false⟩,
 ⟨some 5, .fieldAddr 186 (.tmp 4) 1, none, false, [], false⟩,
 ⟨some 6, .fieldAddr 29 (.tmp 5) 0, none, false, [], false⟩,
 ⟨some 7, .load 3 (.tmp 6), none, false, [], false⟩])
 (.block 0
 (.seq
 (.reg false [
 ⟨some 9, .binOp .eql 3 (.tmp 7) (.const (.int .i64 1)) 3, none, false, [], false⟩,
 ⟨some 8, .assign (.tmp 9), none, false, [], false⟩])
 (.cond (.tmp 8)
 (.seq
 (.reg false [
 ⟨some 10, .move (.tmp 0), none, false, [], false⟩,
 ⟨some 11, .nilCheck (.tmp 10), none, false, [], false⟩,
 ⟨some 12, .fieldAddr 186 (.tmp 11) 1, none, false, [], false⟩,
 ⟨some 13, .fieldAddr 29 (.tmp 12) 2, none, false, [], false⟩,
 ⟨some 14, .buildSlice 187 1 #[(0, .tmp 13)], none, false, [], false⟩,
 ⟨some 2, .assign (.tmp 14), none, false, [], false⟩])
 .ret)
 (.seq
 (.reg false [
 ⟨some 16, .binOp .eql 3 (.tmp 7) (.const (.int .i64 2)) 3, none, false, [], false⟩,
 ⟨some 15, .assign (.tmp 16), none, false, [], false⟩])
 (.cond (.tmp 15)
 (.seq
 (.reg true [
 ⟨some 17, .move (.tmp 0), none, false, [], false⟩,
 ⟨some 18, .nilCheck (.tmp 17), none, false, [], false⟩,
 ⟨some 19, .fieldAddr 186 (.tmp 18) 1, none, false, [], false⟩,
 ⟨some 20, .fieldAddr 29 (.tmp 19) 2, none, false, [], false⟩,
 ⟨some 21, .move (.tmp 0), none, false, [], false⟩,
 ⟨some 22, .nilCheck (.tmp 21), none, false, [], false⟩,
 ⟨some 23, .fieldAddr 186 (.tmp 22) 1, none, false, [], false⟩,
 ⟨some 24, .fieldAddr 29 (.tmp 23) 3, none, false, [], false⟩,
 ⟨some 25, .buildSlice 187 2 #[(0, .tmp 20), (1, .tmp 24)], none, false, [], false⟩,
 ⟨some 2, .assign (.tmp 25), none, false, [], false⟩])
 .ret)
 .skip))))))
 (.seq
 (.reg false [
 ⟨some 2, .assign (.const (.slice none 0 0)), none, false, [], false⟩])
 .ret)))
noncomputable def fi182 : FI := ⟨c182, 26, [.tmp 2], .plain⟩
noncomputable def c183 : XC :=
 (.seq
 (.reg false [
 ⟨some 6, .move (.tmp 0), none, false, [], false⟩,
 ⟨some 7, .move (.tmp 1), none, false, [], false⟩,
 ⟨some 8, .indexAddr 154 (.tmp 6) (.tmp 7), none, false, [], false⟩,
 ⟨some 9, .load 184 (.tmp 8), none, false, [], false⟩,
 ⟨some 10, .nilCheck (.tmp 9), none, false, [], false⟩,
 ⟨some 11, .fieldAddr 186 (.tmp 10) 2, none, false, [], false⟩,
 ⟨some 12, .load 3 (.tmp 11), none, false, [], false⟩,
 ⟨some 13, .binOp .add 3 (.tmp 12) (.const (.int .i64 1)) 3, none, false, [], false⟩,
 ⟨some 14, .nilCheck (.tmp 9), none, false, [], false⟩,
 ⟨some 15, .fieldAddr 186 (.tmp 14) 2, none, false, [], false⟩,
 ⟨none, .store 3 (.tmp 15) (.tmp 13), none, false, [], false⟩])
 (.seq
 (.seq
 (.reg false [
 ⟨some 16, .move (.tmp 0), none, false, [], false⟩,
 ⟨some 17, .move (.tmp 1), none, false, [], false⟩,
 ⟨some 18, .indexAddr 154 (.tmp 16) (.tmp 17), none, false, [], false⟩,
 ⟨some 19, .load 184 (.tmp 18), none, false, [], false⟩,
 ⟨some 20, .nilCheck (.tmp 19), none, false, [], false⟩,
 ⟨some 21, .fieldAddr 186 (.tmp 20) 2, none, false, [], false⟩,
 ⟨some 22, .load 3 (.tmp 21), none, false, [], false⟩,
 ⟨some 23, .binOp .gtr 3 (.tmp 22) (.const (.int .i64 1)) 3, none, false, [], false⟩])
 (.cond (.tmp 23)
 .ret
 .skip))
 (.seq
 (.reg false [
 ⟨some 24, .move (.tmp 0), none, false, [], false⟩,
 ⟨some 25, .move (.tmp 1), none, false, [], false⟩,
 ⟨some 26, .indexAddr 154 (.tmp 24) (.tmp 25), none, false, [], false⟩,
 ⟨some 27, .load 184 (.tmp 26), none, false, [], false⟩,
 ⟨some 28, .call ⟨.value (.func 182), #[.tmp 27], #[184]⟩, none, false, [], false⟩,
 ⟨some 29, .call ⟨.builtin .len, #[.tmp 28], #[187]⟩, none, false, [], false⟩,
 ⟨some 30, .move (.const (.int .i64 0)), none, false, [], false⟩])
 (.block 0
 (.loop
 (.seq
 (.reg false [
 ⟨some 31, .binOp .lss 3 (.tmp 30) (.tmp 29) 3, none, false, [], false⟩])
 (.seq
 (.cond (.tmp 31)
 .skip
 (.exit 0))
 (.seq
 (.block 1
 (.seq
 (.reg false [
 ⟨some 32, .indexAddr 187 (.tmp 28) (.tmp 30), none, false, [], false⟩,
 ⟨some 33, .load 124 (.tmp 32), none, false, [], false⟩,
 ⟨some 5, .assign (.tmp 33), none, false, [], false⟩])
 (.reg false [
 ⟨some 34, .move (.tmp 0), none, false, [], false⟩,
 ⟨some 35, .move (.tmp 5), none, false, [], false⟩,
 ⟨some 36, .nilCheck (.tmp 35), none, false, [], false⟩,
 ⟨some 37, .load 3 (.tmp 36), none, false, [], false⟩,
 ⟨some 38, .call ⟨.value (.func 183), #[.tmp 34, .tmp 37], #[154, 3]⟩, none, false, [], false⟩])))
 (.reg false [
 ⟨some 39, .binOp .add 3 (.tmp 30) (.const (.int .i64 1)) 3, none, false, [], false⟩,
 ⟨some 30, .move (.tmp 39), none, false, [], false⟩])))))))))
noncomputable def fi183 : FI := ⟨c183, 40, [], .plain⟩
noncomputable def c184 : XC :=
 (.seq
 (.reg false [
 ⟨some 6, .assign (.const (.bool false)), none, false, [], false⟩])
 (.seq
 (.seq
 (.reg false [
 ⟨some 10, .move (.tmp 0), none, false, [], false⟩,
 ⟨some 11, .call ⟨.builtin .len, #[.tmp 10], #[23]⟩, none, false, [], false⟩,
 ⟨some 12, .move (.tmp 1), none, false, [], false⟩,
 ⟨some 13, .call ⟨.builtin .len, #[.tmp 12], #[23]⟩, none, false, [], false⟩,
 ⟨some 14, .binOp .neq 3 (.tmp 11) (.tmp 13) 3, none, false, [], false⟩])
 (.cond (.tmp 14)
 (.seq
 (.reg false [
 ⟨some 6, .assign (.const (.bool false)), none, false, [], false⟩])
 .ret)
 .skip))
 (.seq
 (.seq
 (.reg false [
 ⟨some 15, .move (.tmp 0), none, false, [], false⟩,
 ⟨some 16, .call ⟨.builtin .len, #[.tmp 15], #[23]⟩, none, false, [], false⟩,
 ⟨some 17, .move (.const (.int .i64 0)), none, false, [], false⟩])
 (.block 0
 (.loop
 (.seq
 (.reg false [
 ⟨some 18, .binOp .lss 3 (.tmp 17) (.tmp 16) 3, none, false, [], false⟩])
 (.seq
 (.cond (.tmp 18)
 .skip
 (.exit 0))
 (.seq
 (.block 1
 (.seq
 (.reg false [
 ⟨some 19, .move (.tmp 17), none, false, [], false⟩,
 ⟨some 20, .indexAddr 23 (.tmp 15) (.tmp 17), none, false, [], false⟩,
 ⟨some 21, .load 49 (.tmp 20), none, false, [], false⟩,
 ⟨some 8, .alloc 49, none, false, [], false⟩,
 ⟨some 7, .assign (.tmp 19), none, false, [], false⟩,
 ⟨none, .store 49 (.tmp 8) (.tmp 21), none, false, [], false⟩])
 (.seq
 (.reg false [
 ⟨some 22, .move (.tmp 1), none, false, [], false⟩,
 ⟨some 23, .move (.tmp 7), none, false, [], false⟩,
 ⟨some 24, .indexAddr 23 (.tmp 22) (.tmp 23), none, false, [], false⟩,
 ⟨some 25, .load 49 (.tmp 24), none, false, [], false⟩,
 ⟨some 9, .alloc 49, none, false, [], false⟩,
 ⟨none, .store 49 (.tmp 9) (.tmp 25), none, false, [], false⟩])
 (.seq
 (.reg false [
 ⟨some 26, .move (.tmp 2), none, false, [], false⟩,
 ⟨some 27, .load 49 (.tmp 8), none, false, [], false⟩,
 ⟨some 28, .load 49 (.tmp 9), none, false, [], false⟩,
 ⟨some 29, .call ⟨.value (.tmp 26), #[.tmp 27, .tmp 28], #[49, 49]⟩, none, false, [], false⟩,
 ⟨some 30, .unOp .not 4 (.tmp 29), none, false, [], false⟩])
 (.cond (.tmp 30)
 (.seq
 (.reg false [
 ⟨some 6, .assign (.const (.bool false)), none, false, [], false⟩])
 .ret)
 .skip)))))
 (.reg false [
 ⟨some 31, .binOp .add 3 (.tmp 17) (.const (.int .i64 1)) 3, none, false, [], false⟩,
 ⟨some 17, .move (.tmp 31), none, false, [], false⟩])))))))
 (.seq
 (.reg false [
 ⟨some 6, .assign (.const (.bool true)), none, false, [], false⟩])
 .ret))))
noncomputable def fi184 : FI := ⟨c184, 32, [.tmp 6], .plain⟩
noncomputable def c185 : XC :=
 (.seq
 (.reg false [
 ⟨some 2, .box 49 (.tmp 0), none, false, [], false⟩,
 ⟨some 3, .box 49 (.tmp 1), none, false, [], false⟩,
 ⟨some 4, .assign (.const (.bool false)), none, false, [], false⟩])
 (.seq
 (.reg false [
 ⟨some 5, .fieldAddr 49 (.tmp 2) 1, none, false, [], false⟩,
 ⟨some 6, .load 29 (.tmp 5), none, false, [], false⟩,
 ⟨some 7, .fieldAddr 49 (.tmp 3) 1, none, false, [], false⟩,
 ⟨some 8, .load 29 (.tmp 7), none, false, [], false⟩,
 ⟨some 9, .binOp .eql 29 (.tmp 6) (.tmp 8) 29, none, false, [], false⟩,
 ⟨some 10, .move (.tmp 9), none, false, [], false⟩,
 ⟨some 11, .fieldAddr 49 (.tmp 2) 0, some (some 10, true), false, [], false⟩,
 ⟨some 12, .load 47 (.tmp 11), some (some 10, true), false, [], false⟩,
 ⟨some 13, .call ⟨.builtin .len, #[.tmp 12], #[47]⟩, some (some 10, true), false, [], false⟩,
 ⟨some 14, .fieldAddr 49 (.tmp 3) 0, some (some 10, true), false, [], false⟩,
 ⟨some 15, .load 47 (.tmp 14), some (some 10, true), false, [], false⟩,
 ⟨some 16, .call ⟨.builtin .len, #[.tmp 15], #[47]⟩, some (some 10, true), false, [], false⟩,
 ⟨some 17, .binOp .eql 3 (.tmp 13) (.tmp 16) 3, some (some 10, true), false, [], false⟩,
 ⟨some 18, .pick (.tmp 10) (.tmp 17) (.const (.bool false)), none, false, [], false⟩,
 ⟨some 4, .assign (.tmp 18), none, false, [], false⟩])
 .ret))
noncomputable def fi185 : FI := ⟨c185, 19, [.tmp 4], .plain⟩
noncomputable def c186 : XC :=
 (.seq
 (.reg false [
 ⟨some 2, .assign (.const (.slice none 0 0)), none, false, [], false⟩])
 (.seq
 (.reg false [
 ⟨some 6, .move (.tmp 0), none, false, [], false⟩,
 ⟨some 7, .call ⟨.value (.func 93), #[.tmp 6], #[23]⟩, none, false, [], false⟩,
 ⟨some 3, .assign (.tmp 7), none, false, [], false⟩])
 (.seq
 (.seq
 (.reg false [
 ⟨some 4, .assign (.const (.int .i64 0)), none, false, [], false⟩])
 (.block 0
 (.loop
 (.seq
 (.seq
 (.reg false [
 ⟨some 8, .move (.tmp 4), none, false, [], false⟩,
 ⟨some 9, .move (.tmp 0), none, false, [], false⟩,
 ⟨some 10, .call ⟨.builtin .len, #[.tmp 9], #[23]⟩, none, false, [], false⟩,
 ⟨some 11, .binOp .lss 3 (.tmp 8) (.tmp 10) 3, none, false, [], false⟩])
 (.cond (.tmp 11)
 .skip
 (.exit 0)))
 (.seq
 (.block 1
 (.seq
 (.reg false [
 ⟨some 14, .move (.tmp 0), none, false, [], false⟩,
 ⟨some 15, .move (.tmp 4), none, false, [], false⟩,
 ⟨some 16, .indexAddr 23 (.tmp 14) (.tmp 15), none, false, [], false⟩,
 ⟨some 17, .fieldAddr 49 (.tmp 16) 1, none, false, [], false⟩,
 ⟨some 18, .load 29 (.tmp 17), none, false, [], false⟩,
 ⟨some 5, .alloc 29, none, false, [], false⟩,
 ⟨none, .store 29 (.tmp 5) (.tmp 18), none, false, [], false⟩])
 (.seq
 (.seq
 (.reg false [
 ⟨some 19, .fieldAddr 29 (.tmp 5) 0, none, false, [], false⟩,
 ⟨some 20, .load 3 (.tmp 19), none, false, [], false⟩,
 ⟨some 21, .binOp .eql 3 (.tmp 20) (.const (.int .i64 1)) 3, none, false, [], false⟩])
 (.cond (.tmp 21)
 (.reg false [
 ⟨some 22, .move (.tmp 0), none, false, [], false⟩,
 ⟨some 23, .fieldAddr 29 (.tmp 5) 2, none, false, [], false⟩,
 ⟨some 24, .load 3 (.tmp 23), none, false, [], false⟩,
 ⟨some 25, .call ⟨.value (.func 213), #[.tmp 22, .tmp 24], #[23, 3]⟩, none, false, [], false⟩,
 ⟨some 26, .fieldAddr 29 (.tmp 5) 2, none, false, [], false⟩,
 ⟨none, .store 3 (.tmp 26) (.tmp 25), none, false, [], false⟩])
 .skip))
 (.seq
 (.seq
 (.reg false [
 ⟨some 27, .fieldAddr 29 (.tmp 5) 0, none, false, [], false⟩,
 ⟨some 28, .load 3 (.tmp 27), none, false, [], false⟩,
 ⟨some 29, .binOp .eql 3 (.tmp 28) (.const (.int .i64 2)) 3, none, false, [], false⟩])
 (.cond (.tmp 29)
 (.seq
 (.reg false [
 ⟨some 30, .move (.tmp 0), none, false, [], false⟩,
 ⟨some 31, .fieldAddr 29 (.tmp 5) 2, none, false, [], false⟩,
 ⟨some 32, .load 3 (.tmp 31), none, false, [], false⟩,
 ⟨some 33, .call ⟨.value (.func 213), #[.tmp 30, .tmp 32], #[23, 3]⟩, none, false, [], false⟩,
 ⟨some 34, .fieldAddr 29 (.tmp 5) 2, none, false, [], false⟩,
 ⟨none, .store 3 (.tmp 34) (.tmp 33), none, false, [], false⟩])
 (.seq
 (.reg false [
 ⟨some 35, .move (.tmp 0), none, false, [], false⟩,
 ⟨some 36, .fieldAddr 29 (.tmp 5) 3, none, false, [], false⟩,
 ⟨some 37, .load 3 (.tmp 36), none, false, [], false⟩,
 ⟨some 38, .call ⟨.value (.func 213), #[.tmp 35, .tmp 37], #[23, 3]⟩, none, false, [], false⟩,
 ⟨some 39, .fieldAddr 29 (.tmp 5) 3, none, false, [], false⟩,
 ⟨none, .store 3 (.tmp 39) (.tmp 38), none, false, [], false⟩])
 (.seq
 (.reg false [
 ⟨some 40, .fieldAddr 29 (.tmp 5) 2, none, false, [], false⟩,
 ⟨some 41, .load 3 (.tmp 40), none, false, [], false⟩,
 ⟨some 42, .fieldAddr 29 (.tmp 5) 3, none, false, [], false⟩,
 ⟨some 43, .load 3 (.tmp 42), none, false, [], false⟩,
 ⟨some 44, .binOp .eql 3 (.tmp 41) (.tmp 43) 3, none, false, [], false⟩])
 (.cond (.tmp 44)
 (.reg false [
 ⟨some 45, .fieldAddr 29 (.tmp 5) 2, none, false, [], false⟩,
 ⟨some 46, .load 3 (.tmp 45), none, false, [], false⟩,
 ⟨some 47, .build 29 #[(0, .const (.int .i64 1)), (2, .tmp 46)], none, false, [], false⟩,
 ⟨none, .store 29 (.tmp 5) (.tmp 47), none, false, [], false⟩])
 .skip))))
 .skip))
 (.reg false [
 ⟨some 48, .move (.tmp 3), none, false, [], false⟩,
 ⟨some 49, .move (.tmp 4), none, false, [], false⟩,
 ⟨some 50, .load 29 (.tmp 5), none, false, [], false⟩,
 ⟨some 51, .indexAddr 23 (.tmp 48) (.tmp 49), none, false, [], false⟩,
 ⟨some 52, .fieldAddr 49 (.tmp 51) 1, none, false, [], false⟩,
 ⟨none, .store 29 (.tmp 52) (.tmp 50), none, false, [], false⟩])))))
 (.reg false [
 ⟨some 12, .move (.tmp 4), none, false, [], false⟩,
 ⟨some 13, .binOp .add 3 (.tmp 12) (.const (.int .i64 1)) 3, none, false, [], false⟩,
 ⟨some 4, .assign (.tmp 13), none, false, [], false⟩]))))))
 (.seq
 (.reg false [
 ⟨some 53, .move (.tmp 3), none, false, [], false⟩,
 ⟨some 2, .assign (.tmp 53), none, false, [], false⟩])
 .ret))))
noncomputable def fi186 : FI := ⟨c186, 54, [.tmp 2], .plain⟩
noncomputable def c187 : XC :=
 (.seq
 (.reg false [
 ⟨some 4, .assign (.const (.slice none 0 0)), none, false, [], false⟩])
 (.seq
 (.seq
 (.reg false [
 ⟨some 5, .assign (.const (.int .i64 0)), none, false, [], false⟩])
 (.block 0
 (.loop
 (.seq
 (.seq
 (.reg false [
 ⟨some 7, .move (.tmp 5), none, false, [], false⟩,
 ⟨some 8, .move (.tmp 0), none, false, [], false⟩,
 ⟨some 9, .call ⟨.builtin .len, #[.tmp 8], #[23]⟩, none, false, [], false⟩,
 ⟨some 10, .binOp .lss 3 (.tmp 7) (.tmp 9) 3, none, false, [], false⟩])
 (.cond (.tmp 10)
 .skip
 (.exit 0)))
 (.seq
 (.block 1
 (.block 2
 (.loop
 (.seq
 (.seq
 (.reg false [
 ⟨some 13, .move (.tmp 1), none, false, [], false⟩,
 ⟨some 14, .move (.tmp 5), none, false, [], false⟩,
 ⟨some 15, .indexAddr 56 (.tmp 13) (.tmp 14), none, false, [], false⟩,
 ⟨some 16, .load 4 (.tmp 15), none, false, [], false⟩])
 (.cond (.tmp 16)
 .skip
 (.exit 2)))
 (.block 3
 (.seq
 (.reg false [
 ⟨some 17, .move (.tmp 0), none, false, [], false⟩,
 ⟨some 18, .move (.tmp 5), none, false, [], false⟩,
 ⟨some 19, .indexAddr 23 (.tmp 17) (.tmp 18), none, false, [], false⟩,
 ⟨some 20, .fieldAddr 49 (.tmp 19) 1, none, false, [], false⟩,
 ⟨some 21, .fieldAddr 29 (.tmp 20) 2, none, false, [], false⟩,
 ⟨some 22, .load 3 (.tmp 21), none, false, [], false⟩,
 ⟨some 6, .assign (.tmp 22), none, false, [], false⟩])
 (.seq
 (.seq
 (.reg false [
 ⟨some 23, .move (.tmp 0), none, false, [], false⟩,
 ⟨some 24, .move (.tmp 5), none, false, [], false⟩,
 ⟨some 25, .indexAddr 23 (.tmp 23) (.tmp 24), none, false, [], false⟩,
 ⟨some 26, .fieldAddr 49 (.tmp 25) 1, none, false, [], false⟩,
 ⟨some 27, .fieldAddr 29 (.tmp 26) 0, none, false, [], false⟩,
 ⟨some 28, .load 3 (.tmp 27), none, false, [], false⟩,
 ⟨some 29, .binOp .neq 3 (.tmp 28) (.const (.int .i64 1)) 3, none, false, [], false⟩,
 ⟨some 30, .move (.tmp 29), none, false, [], false⟩,
 ⟨some 31, .move (.tmp 6), some (some 30, false), false, [], false⟩,
 ⟨some 32, .move (.tmp 5), some (some 30, false), false, [], false⟩,
 ⟨some 33, .binOp .eql 3 (.tmp 31) (.tmp 32) 3, some (some 30, false), false, [], false⟩,
 ⟨some 34, .pick (.tmp 30) (.const (.bool true)) (.tmp 33), none, false, [], false⟩,
 ⟨some 35, .move (.tmp 34), none, false, [], false⟩,
 ⟨some 36, .move (.tmp 6), some (some 35, false), false, [], false⟩,
 ⟨some 37, .binOp .eql 3 (.tmp 36) (.const (.int .i64 0)) 3, some (some 35, false), false, [], false⟩,
 ⟨some 38, .pick (.tmp 35) (.const (.bool true)) (.tmp 37), none, false, [], false⟩,
 ⟨some 39, .move (.tmp 38), none, false, [], false⟩,
 ⟨some 40, .move (.tmp 0), some (some 39, false), false, [], false⟩,
 ⟨some 41, .move (.tmp 1), some (some 39, false), false, [], false⟩,
 ⟨some 42, .move (.tmp 6), some (some 39, false), false, [], false⟩,
 ⟨some 43, .call ⟨.value (.func 214), #[.tmp 40, .tmp 41, .tmp 42], #[23, 56, 3]⟩, some (some 39, false), false, [], false⟩,
 ⟨some 44, .binOp .neq 3 (.tmp 43) (.const (.int .i64 1)) 3, some (some 39, false), false, [], false⟩,
 ⟨some 45, .pick (.tmp 39) (.const (.bool true)) (.tmp 44), none, false, [], false⟩])
 (.cond (.tmp 45)
 (.exit 2)
 .skip))
 (.seq
 (.reg true [
 ⟨some 48, .move (.tmp 0), none, false, [], false⟩,
 ⟨some 49, .move (.tmp 5), none, false, [], false⟩,
 ⟨some 50, .indexAddr 23 (.tmp 48) (.tmp 49), none, false, [], false⟩,
 ⟨some 51, .fieldAddr 49 (.tmp 50) 0, none, false, [], false⟩,
 ⟨some 52, .load 47 (.tmp 51), none, false, [], false⟩,
 ⟨some 53, .move (.tmp 0), none, false, [], false⟩,
 ⟨some 54, .move (.tmp 6), none, false, [], false⟩,
 ⟨some 55, .indexAddr 23 (.tmp 53) (.tmp 54), none, false, [], false⟩,
 ⟨some 56, .fieldAddr 49 (.tmp 55) 0, none, false, [], false⟩,
 ⟨some 57, .load 47 (.tmp 56), none, false, [], false⟩,
 ⟨some 58, .call ⟨.builtin .append, #[.tmp 52, .tmp 57], #[47, 47]⟩, none, false, [false, false, true, true, true], false⟩,
 ⟨some 46, .move (.tmp 0), none, false, [], false⟩,
 ⟨some 47, .move (.tmp 5), none, false, [], false⟩,
 ⟨some 59, .indexAddr 23 (.tmp 46) (.tmp 47), none, false, [], false⟩,
 ⟨some 60, .fieldAddr 49 (.tmp 59) 0, none, false, [], false⟩,
 ⟨none, .store 47 (.tmp 60) (.tmp 58), none, false, [], false⟩])
 (.seq
 (.reg false [
 ⟨some 61, .move (.tmp 0), none, false, [], false⟩,
 ⟨some 62, .move (.tmp 5), none, false, [], false⟩,
 ⟨some 63, .move (.tmp 0), none, false, [], false⟩,
 ⟨some 64, .move (.tmp 6), none, false, [], false⟩,
 ⟨some 65, .indexAddr 23 (.tmp 63) (.tmp 64), none, false, [], false⟩,
 ⟨some 66, .fieldAddr 49 (.tmp 65) 1, none, false, [], false⟩,
 ⟨some 67, .load 29 (.tmp 66), none, false, [], false⟩,
 ⟨some 68, .indexAddr 23 (.tmp 61) (.tmp 62), none, false, [], false⟩,
 ⟨some 69, .fieldAddr 49 (.tmp 68) 1, none, false, [], false⟩,
 ⟨none, .store 29 (.tmp 69) (.tmp 67), none, false, [], false⟩])
 (.reg false [
 ⟨some 70, .move (.tmp 1), none, false, [], false⟩,
 ⟨some 71, .move (.tmp 6), none, false, [], false⟩,
 ⟨some 72, .indexAddr 56 (.tmp 70) (.tmp 71), none, false, [], false⟩,
 ⟨none, .store 4 (.tmp 72) (.const (.bool false)), none, false, [], false⟩]))))))))))
 (.reg false [
 ⟨some 11, .move (.tmp 5), none, false, [], false⟩,
 ⟨some 12, .binOp .add 3 (.tmp 11) (.const (.int .i64 1)) 3, none, false, [], false⟩,
 ⟨some 5, .assign (.tmp 12), none, false, [], false⟩]))))))
 (.seq
 (.reg false [
 ⟨some 73, .move (.tmp 1), none, false, [], false⟩,
 ⟨some 4, .assign (.tmp 73), none, false, [], false⟩])
 .ret)))
noncomputable def fi187 : FI := ⟨c187, 74, [.tmp 4], .plain⟩
noncomputable def c188 : XC :=
 (.seq
 (.reg false [
 ⟨some 2, .assign (.const (.slice none 0 0)), none, false, [], false⟩])
 (.seq
 (.reg false [
 ⟨some 6, .move (.tmp 0), none, false, [], false⟩,
 ⟨some 7, .call ⟨.builtin .len, #[.tmp 6], #[23]⟩, none, false, [], false⟩,
 ⟨some 8, .makeSlice 56 (.tmp 7) (.tmp 7), none, false, [], false⟩,
 ⟨some 3, .assign (.tmp 8), none, false, [], false⟩])
 (.seq
 (.reg false [
 ⟨some 9, .move (.tmp 3), none, false, [], false⟩,
 ⟨some 10, .indexAddr 56 (.tmp 9) (.const (.int .i64 0)), none, false, [], false⟩,
 ⟨none, .store 4 (.tmp 10) (.const (.bool true)), none, false, [], false⟩])
 (.seq
 (.seq
 (.reg false [
 ⟨some 4, .assign (.const (.int .i64 0)), none, false, [], false⟩])
 (.block 0
 (.loop
 (.seq
 (.seq
 (.reg false [
 ⟨some 11, .move (.tmp 4), none, false, [], false⟩,
 ⟨some 12, .move (.tmp 0), none, false, [], false⟩,
 ⟨some 13, .call ⟨.builtin .len, #[.tmp 12], #[23]⟩, none, false, [], false⟩,
 ⟨some 14, .binOp .lss 3 (.tmp 11) (.tmp 13) 3, none, false, [], false⟩])
 (.cond (.tmp 14)
 .skip
 (.exit 0)))
 (.seq
 (.block 1
 (.seq
 (.reg false [
 ⟨some 5, .assign (.const (.int .i64 0)), none, false, [], false⟩])
 (.block 2
 (.loop
 (.seq
 (.seq
 (.reg false [
 ⟨some 17, .move (.tmp 5), none, false, [], false⟩,
 ⟨some 18, .move (.tmp 0), none, false, [], false⟩,
 ⟨some 19, .call ⟨.builtin .len, #[.tmp 18], #[23]⟩, none, false, [], false⟩,
 ⟨some 20, .binOp .lss 3 (.tmp 17) (.tmp 19) 3, none, false, [], false⟩])
 (.cond (.tmp 20)
 .skip
 (.exit 2)))
 (.seq
 (.block 3
 (.seq
 (.seq
 (.reg false [
 ⟨some 23, .move (.tmp 3), none, false, [], false⟩,
 ⟨some 24, .move (.tmp 5), none, false, [], false⟩,
 ⟨some 25, .indexAddr 56 (.tmp 23) (.tmp 24), none, false, [], false⟩,
 ⟨some 26, .load 4 (.tmp 25), none, false, [], false⟩,
 ⟨some 27, .move (.tmp 26), none, false, [], false⟩,
 ⟨some 28, .move (.tmp 0), some (some 27, true), false, [], false⟩,
 ⟨some 29, .move (.tmp 5), some (some 27, true), false, [], false⟩,
 ⟨some 30, .indexAddr 23 (.tmp 28) (.tmp 29), some (some 27, true), false, [], false⟩,
 ⟨some 31, .fieldAddr 49 (.tmp 30) 1, some (some 27, true), false, [], false⟩,
 ⟨some 32, .fieldAddr 29 (.tmp 31) 0, some (some 27, true), false, [], false⟩,
 ⟨some 33, .load 3 (.tmp 32), some (some 27, true), false, [], false⟩,
 ⟨some 34, .binOp .neq 3 (.tmp 33) (.const (.int .i64 3)) 3, some (some 27, true), false, [], false⟩,
 ⟨some 35, .pick (.tmp 27) (.tmp 34) (.const (.bool false)), none, false, [], false⟩])
 (.cond (.tmp 35)
 (.reg false [
 ⟨some 36, .move (.tmp 3), none, false, [], false⟩,
 ⟨some 37, .move (.tmp 0), none, false, [], false⟩,
 ⟨some 38, .move (.tmp 5), none, false, [], false⟩,
 ⟨some 39, .indexAddr 23 (.tmp 37) (.tmp 38), none, false, [], false⟩,
 ⟨some 40, .fieldAddr 49 (.tmp 39) 1, none, false, [], false⟩,
 ⟨some 41, .fieldAddr 29 (.tmp 40) 2, none, false, [], false⟩,
 ⟨some 42, .load 3 (.tmp 41), none, false, [], false⟩,
 ⟨some 43, .indexAddr 56 (.tmp 36) (.tmp 42), none, false, [], false⟩,
 ⟨none, .store 4 (.tmp 43) (.const (.bool true)), none, false, [], false⟩])
 .skip))
 (.seq
 (.reg false [
 ⟨some 44, .move (.tmp 3), none, false, [], false⟩,
 ⟨some 45, .move (.tmp 5), none, false, [], false⟩,
 ⟨some 46, .indexAddr 56 (.tmp 44) (.tmp 45), none, false, [], false⟩,
 ⟨some 47, .load 4 (.tmp 46), none, false, [], false⟩,
 ⟨some 48, .move (.tmp 47), none, false, [], false⟩,
 ⟨some 49, .move (.tmp 0), some (some 48, true), false, [], false⟩,
 ⟨some 50, .move (.tmp 5), some (some 48, true), false, [], false⟩,
 ⟨some 51, .indexAddr 23 (.tmp 49) (.tmp 50), some (some 48, true), false, [], false⟩,
 ⟨some 52, .fieldAddr 49 (.tmp 51) 1, some (some 48, true), false, [], false⟩,
 ⟨some 53, .fieldAddr 29 (.tmp 52) 0, some (some 48, true), false, [], false⟩,
 ⟨some 54, .load 3 (.tmp 53), some (some 48, true), false, [], false⟩,
 ⟨some 55, .binOp .eql 3 (.tmp 54) (.const (.int .i64 2)) 3, some (some 48, true), false, [], false⟩,
 ⟨some 56, .pick (.tmp 48) (.tmp 55) (.const (.bool false)), none, false, [], false⟩])
 (.cond (.tmp 56)
 (.reg false [
 ⟨some 57, .move (.tmp 3), none, false, [], false⟩,
 ⟨some 58, .move (.tmp 0), none, false, [], false⟩,
 ⟨some 59, .move (.tmp 5), none, false, [], false⟩,
 ⟨some 60, .indexAddr 23 (.tmp 58) (.tmp 59), none, false, [], false⟩,
 ⟨some 61, .fieldAddr 49 (.tmp 60) 1, none, false, [], false⟩,
 ⟨some 62, .fieldAddr 29 (.tmp 61) 3, none, false, [], false⟩,
 ⟨some 63, .load 3 (.tmp 62), none, false, [], false⟩,
 ⟨some 64, .indexAddr 56 (.tmp 57) (.tmp 63), none, false, [], false⟩,
 ⟨none, .store 4 (.tmp 64) (.const (.bool true)), none, false, [], false⟩])
 .skip))))
 (.reg false [
 ⟨some 21, .move (.tmp 5), none, false, [], false⟩,
 ⟨some 22, .binOp .add 3 (.tmp 21) (.const (.int .i64 1)) 3, none, false, [], false⟩,
 ⟨some 5, .assign (.tmp 22), none, false, [], false⟩])))))))
 (.reg false [
 ⟨some 15, .move (.tmp 4), none, false, [], false⟩,
 ⟨some 16, .binOp .add 3 (.tmp 15) (.const (.int .i64 1)) 3, none, false, [], false⟩,
 ⟨some 4, .assign (.tmp 16), none, false, [], false⟩]))))))
 (.seq
 (.reg false [
 ⟨some 65, .move (.tmp 3), none, false, [], false⟩,
 ⟨some 2, .assign (.tmp 65), none, false, [], false⟩])
 .ret)))))
noncomputable def fi188 : FI := ⟨c188, 66, [.tmp 2], .plain⟩
noncomputable def c189 : XC :=
 (.seq
 (.reg false [
 ⟨some 1, .box 46 (.tmp 0), none, false, [], false⟩,
 ⟨some 2, .alloc 46, none, false, [], false⟩])
 (.seq
 (.reg false [
 ⟨some 3, .fieldAddr 46 (.tmp 1) 7, none, false, [], false⟩,
 ⟨some 4, .load 22 (.tmp 3), none, false, [], false⟩,
 ⟨some 5, .call ⟨.value (.func 109), #[.tmp 4], #[22]⟩, none, false, [], false⟩,
 ⟨some 6, .fieldAddr 46 (.tmp 1) 7, none, false, [], false⟩,
 ⟨none, .store 22 (.tmp 6) (.tmp 5), none, false, [], false⟩])
 (.seq
 (.reg false [
 ⟨some 7, .load 46 (.tmp 1), none, false, [], false⟩,
 ⟨none, .store 46 (.tmp 2) (.tmp 7), none, false, [], false⟩])
 .ret)))
noncomputable def fi189 : FI := ⟨c189, 8, [.cell 2 46], .plain⟩
noncomputable def c194 : XC :=
 (.seq
 (.reg false [
 ⟨some 8, .assign (.const (.int .i64 0)), none, false, [], false⟩,
 ⟨some 9, .assign (.const (.int .i64 0)), none, false, [], false⟩])
 (.seq
 (.seq
 (.reg false [
 ⟨some 10, .move (.tmp 0), none, false, [], false⟩])
 (.block 0
 (.seq
 (.reg false [
 ⟨some 12, .binOp .eql 3 (.tmp 10) (.const (.int .i64 1)) 3, none, false, [], false⟩,
 ⟨some 11, .assign (.tmp 12), none, false, [], false⟩])
 (.cond (.tmp 11)
 (.seq
 (.reg false [
 ⟨some 13, .move (.tmp 1), none, false, [], false⟩,
 ⟨some 14, .move (.tmp 2), none, false, [], false⟩,
 ⟨some 15, .convert 3 21 (.tmp 14), none, false, [], false⟩,
 ⟨some 16, .move (.tmp 3), none, false, [], false⟩,
 ⟨some 17, .convert 3 21 (.tmp 16), none, false, [], false⟩,
 ⟨some 18, .call ⟨.value (.func 215), #[.tmp 13, .tmp 15, .tmp 17, .const (.int .i64 32)], #[9, 21, 21, 3]⟩, none, false, [], false⟩,
 ⟨some 19, .extract (.tmp 18) 0, none, false, [], false⟩,
 ⟨some 20, .extract (.tmp 18) 1, none, false, [], false⟩,
 ⟨some 8, .assign (.tmp 19), none, false, [], false⟩,
 ⟨some 9, .assign (.tmp 20), none, false, [], false⟩])
 .ret)
 (.seq
 (.reg false [
 ⟨some 22, .binOp .eql 3 (.tmp 10) (.const (.int .i64 2)) 3, none, false, [], false⟩,
 ⟨some 21, .assign (.tmp 22), none, false, [], false⟩])
 (.cond (.tmp 21)
 (.seq
 (.reg false [
 ⟨some 23, .move (.tmp 1), none, false, [], false⟩,
 ⟨some 24, .move (.tmp 2), none, false, [], false⟩,
 ⟨some 25, .move (.tmp 3), none, false, [], false⟩,
 ⟨some 26, .call ⟨.value (.func 216), #[.tmp 23, .tmp 24, .tmp 25, .const (.int .i64 64)], #[9, 2, 2, 3]⟩, none, false, [], false⟩,
 ⟨some 27, .extract (.tmp 26) 0, none, false, [], false⟩,
 ⟨some 28, .extract (.tmp 26) 1, none, false, [], false⟩,
 ⟨some 8, .assign (.tmp 27), none, false, [], false⟩,
 ⟨some 9, .assign (.tmp 28), none, false, [], false⟩])
 .ret)
 .skip))))))
 (.seq
 (.reg false [
 ⟨some 8, .assign (.const (.int .i64 0)), none, false, [], false⟩,
 ⟨some 9, .assign (.const (.int .i64 0)), none, false, [], false⟩])
 .ret)))
noncomputable def fi194 : FI := ⟨c194, 29, [.tmp 8, .tmp 9], .plain⟩
noncomputable def c195 : XC :=
 (.seq
 (.reg false [
 ⟨some 4, .assign (.const (.int .i64 0)), none, false, [], false⟩])
 (.seq
 (.seq
 (.reg false [
 ⟨some 5, .move (.tmp 0), none, false, [], false⟩])
 (.block 0
 (.seq
 (.reg false [
 ⟨some 7, .binOp .eql 3 (.tmp 5) (.const (.int .i64 3)) 3, none, false, [], false⟩,
 ⟨some 6, .assign (.tmp 7), none, false, [], false⟩])
 (.cond (.tmp 6)
 (.seq
 (.reg false [
 ⟨some 8, .move (.tmp 1), none, false, [], false⟩,
 ⟨some 9, .convert 3 210 (.tmp 8), none, false, [], false⟩,
 ⟨some 10, .convert 210 3 (.tmp 9), none, false, [], false⟩,
 ⟨some 4, .assign (.tmp 10), none, false, [], false⟩])
 .ret)
 (.seq
 (.reg false [
 ⟨some 12, .binOp .eql 3 (.tmp 5) (.const (.int .i64 1)) 3, none, false, [], false⟩,
 ⟨some 11, .assign (.tmp 12), none, false, [], false⟩])
 (.cond (.tmp 11)
 (.seq
 (.reg false [
 ⟨some 13, .move (.tmp 1), none, false, [], false⟩,
 ⟨some 14, .convert 3 21 (.tmp 13), none, false, [], false⟩,
 ⟨some 15, .convert 21 3 (.tmp 14), none, false, [], false⟩,
 ⟨some 4, .assign (.tmp 15), none, false, [], false⟩])
 .ret)
 (.seq
 (.reg false [
 ⟨some 17, .binOp .eql 3 (.tmp 5) (.const (.int .i64 2)) 3, none, false, [], false⟩,
 ⟨some 16, .assign (.tmp 17), none, false, [], false⟩])
 (.cond (.tmp 16)
 (.seq
 (.reg false [
 ⟨some 18, .move (.tmp 1), none, false, [], false⟩,
 ⟨some 4, .assign (.tmp 18), none, false, [], false⟩])
 .ret)
 .skip))))))))
 (.seq
 (.reg false [
 ⟨some 4, .assign (.const (.int .i64 0)), none, false, [], false⟩])
 .ret)))
noncomputable def fi195 : FI := ⟨c195, 19, [.tmp 4], .plain⟩
noncomputable def c196 : XC :=
 (.seq
 (.reg false [
 ⟨some 6, .assign (.const (.pointer none)), none, false, [], false⟩])
 (.seq
 (.seq
 (.reg false [
 ⟨some 7, .move (.tmp 2), none, false, [], false⟩,
 ⟨some 8, .move (.tmp 0), none, false, [], false⟩,
 ⟨some 9, .nilCheck (.tmp 8), none, false, [], false⟩,
 ⟨some 10, .fieldAddr 116 (.tmp 9) 0, none, false, [], false⟩,
 ⟨some 11, .fieldAddr 36 (.tmp 10) 0, none, false, [], false⟩,
 ⟨some 12, .load 34 (.tmp 11), none, false, [], false⟩,
 ⟨some 13, .move (.tmp 1), none, false, [], false⟩,
 ⟨some 14, .indexAddr 34 (.tmp 12) (.tmp 13), none, false, [], false⟩,
 ⟨some 15, .fieldAddr 105 (.tmp 14) 2, none, false, [], false⟩,
 ⟨some 16, .load 3 (.tmp 15), none, false, [], false⟩,
 ⟨some 17, .call ⟨.value (.func 179), #[.tmp 7, .tmp 16], #[3, 3]⟩, none, false, [], false⟩,
 ⟨some 18, .unOp .not 4 (.tmp 17), none, false, [], false⟩])
 (.cond (.tmp 18)
 (.reg false [
 ⟨some 19, .call ⟨.value (.func 154), #[.const (.int .i64 3)], #[3]⟩, none, false, [], false⟩])
 .skip))
 (.seq
 (.reg false [
 ⟨some 20, .move (.tmp 0), none, false, [], false⟩,
 ⟨some 21, .nilCheck (.tmp 20), none, false, [], false⟩,
 ⟨some 22, .fieldAddr 116 (.tmp 21) 3, none, false, [], false⟩,
 ⟨some 23, .load 87 (.tmp 22), none, false, [], false⟩,
 ⟨some 24, .move (.tmp 1), none, false, [], false⟩,
 ⟨some 25, .indexAddr 87 (.tmp 23) (.tmp 24), none, false, [], false⟩,
 ⟨some 26, .load 22 (.tmp 25), none, false, [], false⟩,
 ⟨some 27, .move (.tmp 2), none, false, [], false⟩,
 ⟨some 28, .indexAddr 22 (.tmp 26) (.tmp 27), none, false, [], false⟩,
 ⟨some 6, .assign (.tmp 28), none, false, [], false⟩])
 .ret)))
noncomputable def fi196 : FI := ⟨c196, 29, [.tmp 6], .plain⟩
noncomputable def c197 : XC :=
 (.seq
 (.reg false [
 ⟨some 2, .assign (.const (.int .i64 0)), none, false, [], false⟩])
 (.seq
 (.seq
 (.reg false [
 ⟨some 4, .move (.tmp 0), none, false, [], false⟩,
 ⟨some 5, .nilCheck (.tmp 4), none, false, [], false⟩,
 ⟨some 6, .fieldAddr 116 (.tmp 5) 1, none, false, [], false⟩,
 ⟨some 7, .load 22 (.tmp 6), none, false, [], false⟩,
 ⟨some 8, .call ⟨.builtin .len, #[.tmp 7], #[22]⟩, none, false, [], false⟩,
 ⟨some 9, .binOp .eql 3 (.tmp 8) (.const (.int .i64 0)) 3, none, false, [], false⟩])
 (.cond (.tmp 9)
 (.seq
 (.reg false [
 ⟨some 2, .assign (.const (.int .i64 0)), none, false, [], false⟩])
 .ret)
 .skip))
 (.seq
 (.reg false [
 ⟨some 10, .move (.tmp 0), none, false, [], false⟩,
 ⟨some 11, .nilCheck (.tmp 10), none, false, [], false⟩,
 ⟨some 12, .fieldAddr 116 (.tmp 11) 1, none, false, [], false⟩,
 ⟨some 13, .load 22 (.tmp 12), none, false, [], false⟩,
 ⟨some 14, .indexAddr 22 (.tmp 13) (.const (.int .i64 0)), none, false, [], false⟩,
 ⟨some 15, .load 3 (.tmp 14), none, false, [], false⟩,
 ⟨some 3, .assign (.tmp 15), none, false, [], false⟩])
 (.seq
 (.reg false [
 ⟨some 16, .move (.tmp 0), none, false, [], false⟩,
 ⟨some 17, .move (.tmp 0), none, false, [], false⟩,
 ⟨some 18, .nilCheck (.tmp 17), none, false, [], false⟩,
 ⟨some 19, .fieldAddr 116 (.tmp 18) 1, none, false, [], false⟩,
 ⟨some 20, .load 22 (.tmp 19), none, false, [], false⟩,
 ⟨some 21, .slice 22 (.tmp 20) (some (.const (.int .i64 1))) none none, none, false, [], false⟩,
 ⟨some 22, .nilCheck (.tmp 16), none, false, [], false⟩,
 ⟨some 23, .fieldAddr 116 (.tmp 22) 1, none, false, [], false⟩,
 ⟨none, .store 22 (.tmp 23) (.tmp 21), none, false, [], false⟩])
 (.seq
 (.reg false [
 ⟨some 24, .move (.tmp 3), none, false, [], false⟩,
 ⟨some 2, .assign (.tmp 24), none, false, [], false⟩])
 .ret)))))
noncomputable def fi197 : FI := ⟨c197, 25, [.tmp 2], .plain⟩
noncomputable def c206 : XC :=
 (.seq
 (.reg false [
 ⟨some 4, .assign (.const (.bool false)), none, false, [], false⟩])
 (.seq
 (.reg false [
 ⟨some 5, .move (.tmp 0), none, false, [], false⟩,
 ⟨some 6, .move (.tmp 1), none, false, [], false⟩,
 ⟨some 7, .call ⟨.value (.func 222), #[.tmp 5, .tmp 6], #[22, 3]⟩, none, false, [], false⟩,
 ⟨some 8, .binOp .geq 3 (.tmp 7) (.const (.int .i64 0)) 3, none, false, [], false⟩,
 ⟨some 4, .assign (.tmp 8), none, false, [], false⟩])
 .ret))
noncomputable def fi206 : FI := ⟨c206, 9, [.tmp 4], .plain⟩
noncomputable def c207 : XC :=
 (.seq
 (.reg false [
 ⟨some 3, .box 107 (.tmp 0), none, false, [], false⟩,
 ⟨some 6, .assign (.const (.bool false)), none, false, [], false⟩])
 (.seq
 (.reg false [
 ⟨some 7, .move (.tmp 1), none, false, [], false⟩,
 ⟨some 8, .fieldAddr 107 (.tmp 3) 0, none, false, [], false⟩,
 ⟨some 9, .fieldAddr 36 (.tmp 8) 0, none, false, [], false⟩,
 ⟨some 10, .load 34 (.tmp 9), none, false, [], false⟩,
 ⟨some 11, .call ⟨.builtin .len, #[.tmp 10], #[34]⟩, none, false, [], false⟩,
 ⟨some 12, .call ⟨.value (.func 179), #[.tmp 7, .tmp 11], #[3, 3]⟩, none, false, [], false⟩,
 ⟨some 13, .move (.tmp 12), none, false, [], false⟩,
 ⟨some 14, .fieldAddr 107 (.tmp 3) 0, some (some 13, true), false, [], false⟩,
 ⟨some 15, .fieldAddr 36 (.tmp 14) 0, some (some 13, true), false, [], false⟩,
 ⟨some 16, .load 34 (.tmp 15), some (some 13, true), false, [], false⟩,
 ⟨some 17, .move (.tmp 1), some (some 13, true), false, [], false⟩,
 ⟨some 18, .indexAddr 34 (.tmp 16) (.tmp 17), some (some 13, true), false, [], false⟩,
 ⟨some 19, .fieldAddr 105 (.tmp 18) 2, some (some 13, true), false, [], false⟩,
 ⟨some 20, .load 3 (.tmp 19), some (some 13, true), false, [], false⟩,
 ⟨some 21, .binOp .gtr 3 (.tmp 20) (.const (.int .i64 0)) 3, some (some 13, true), false, [], false⟩,
 ⟨some 22, .move (.tmp 2), some (some 13, true), false, [], false⟩,
 ⟨some 23, .binOp .eql 4 (.tmp 21) (.tmp 22) 4, some (some 13, true), false, [], false⟩,
 ⟨some 24, .pick (.tmp 13) (.tmp 23) (.const (.bool false)), none, false, [], false⟩,
 ⟨some 6, .assign (.tmp 24), none, false, [], false⟩])
 .ret))
noncomputable def fi207 : FI := ⟨c207, 25, [.tmp 6], .plain⟩
noncomputable def c208 : XC :=
 (.seq
 (.reg false [
 ⟨some 5, .assign (.const (.bool false)), none, false, [], false⟩])
 (.seq
 (.reg false [
 ⟨some 6, .fieldAddr 107 (.tmp 2) 1, none, false, [], false⟩,
 ⟨some 7, .fieldAddr 25 (.tmp 6) 3, none, false, [], false⟩,
 ⟨some 8, .load 22 (.tmp 7), none, false, [], false⟩,
 ⟨some 9, .move (.tmp 0), none, false, [], false⟩,
 ⟨some 10, .indexAddr 22 (.tmp 8) (.tmp 9), none, false, [], false⟩,
 ⟨some 11, .load 3 (.tmp 10), none, false, [], false⟩,
 ⟨some 12, .move (.tmp 1), none, false, [], false⟩,
 ⟨some 13, .binOp .eql 3 (.tmp 11) (.tmp 12) 3, none, false, [], false⟩,
 ⟨some 5, .assign (.tmp 13), none, false, [], false⟩])
 .ret))
noncomputable def fi208 : FI := ⟨c208, 14, [.tmp 5], .plain⟩
noncomputable def c209 : XC :=
 (.seq
 (.reg false [
 ⟨some 2, .assign (.const (.int .i64 0)), none, false, [], false⟩])
 (.seq
 (.seq
 (.reg false [
 ⟨some 3, .move (.tmp 0), none, false, [], false⟩,
 ⟨some 4, .binOp .eql 3 (.tmp 3) (.const (.int .i64 2)) 3, none, false, [], false⟩])
 (.cond (.tmp 4)
 (.seq
 (.reg false [
 ⟨some 2, .assign (.const (.int .i64 2)), none, false, [], false⟩])
 .ret)
 .skip))
 (.seq
 (.reg false [
 ⟨some 2, .assign (.const (.int .i64 1)), none, false, [], false⟩])
 .ret)))
noncomputable def fi209 : FI := ⟨c209, 5, [.tmp 2], .plain⟩
noncomputable def c210 : XC :=
 (.seq
 (.reg false [
 ⟨some 3, .box 107 (.tmp 0), none, false, [], false⟩,
 ⟨some 4, .box 46 (.tmp 1), none, false, [], false⟩,
 ⟨some 6, .assign (.const (.bool false)), none, false, [], false⟩])
 (.seq
 (.reg false [
 ⟨some 10, .fieldAddr 107 (.tmp 3) 0, none, false, [], false⟩,
 ⟨some 11, .fieldAddr 36 (.tmp 10) 1, none, false, [], false⟩,
 ⟨some 12, .load 33 (.tmp 11), none, false, [], false⟩,
 ⟨some 13, .fieldAddr 46 (.tmp 4) 5, none, false, [], false⟩,
 ⟨some 14, .load 3 (.tmp 13), none, false, [], false⟩,
 ⟨some 15, .indexAddr 33 (.tmp 12) (.tmp 14), none, false, [], false⟩,
 ⟨some 16, .load 25 (.tmp 15), none, false, [], false⟩,
 ⟨some 7, .alloc 25, none, false, [], false⟩,
 ⟨none, .store 25 (.tmp 7) (.tmp 16), none, false, [], false⟩])
 (.seq
 (.seq
 (.reg false [
 ⟨some 17, .fieldAddr 46 (.tmp 4) 7, none, false, [], false⟩,
 ⟨some 18, .load 22 (.tmp 17), none, false, [], false⟩,
 ⟨some 19, .call ⟨.builtin .len, #[.tmp 18], #[22]⟩, none, false, [], false⟩,
 ⟨some 20, .move (.const (.int .i64 0)), none, false, [], false⟩])
 (.block 0
 (.loop
 (.seq
 (.reg false [
 ⟨some 21, .binOp .lss 3 (.tmp 20) (.tmp 19) 3, none, false, [], false⟩])
 (.seq
 (.cond (.tmp 21)
 .skip
 (.exit 0))
 (.seq
 (.block 1
 (.seq
 (.reg false [
 ⟨some 22, .move (.tmp 20), none, false, [], false⟩,
 ⟨some 23, .indexAddr 22 (.tmp 18) (.tmp 20), none, false, [], false⟩,
 ⟨some 24, .load 3 (.tmp 23), none, false, [], false⟩,
 ⟨some 8, .assign (.tmp 22), none, false, [], false⟩,
 ⟨some 9, .assign (.tmp 24), none, false, [], false⟩])
 (.seq
 (.reg false [
 ⟨some 25, .move (.tmp 2), none, false, [], false⟩,
 ⟨some 26, .move (.tmp 9), none, false, [], false⟩,
 ⟨some 27, .fieldAddr 25 (.tmp 7) 3, none, false, [], false⟩,
 ⟨some 28, .load 22 (.tmp 27), none, false, [], false⟩,
 ⟨some 29, .move (.tmp 8), none, false, [], false⟩,
 ⟨some 30, .indexAddr 22 (.tmp 28) (.tmp 29), none, false, [], false⟩,
 ⟨some 31, .load 3 (.tmp 30), none, false, [], false⟩,
 ⟨some 32, .call ⟨.value (.tmp 25), #[.tmp 26, .tmp 31], #[3, 3]⟩, none, false, [], false⟩,
 ⟨some 33, .unOp .not 4 (.tmp 32), none, false, [], false⟩])
 (.cond (.tmp 33)
 (.seq
 (.reg false [
 ⟨some 6, .assign (.const (.bool false)), none, false, [], false⟩])
 .ret)
 .skip))))
 (.reg false [
 ⟨some 34, .binOp .add 3 (.tmp 20) (.const (.int .i64 1)) 3, none, false, [], false⟩,
 ⟨some 20, .move (.tmp 34), none, false, [], false⟩])))))))
 (.seq
 (.reg false [
 ⟨some 35, .fieldAddr 46 (.tmp 4) 2, none, false, [], false⟩,
 ⟨some 36, .load 3 (.tmp 35), none, false, [], false⟩,
 ⟨some 37, .binOp .lss 3 (.tmp 36) (.const (.int .i64 0)) 3, none, false, [], false⟩,
 ⟨some 38, .move (.tmp 37), none, false, [], false⟩,
 ⟨some 39, .fieldAddr 25 (.tmp 7) 1, some (some 38, false), false, [], false⟩,
 ⟨some 40, .load 3 (.tmp 39), some (some 38, false), false, [], false⟩,
 ⟨some 41, .binOp .neq 3 (.tmp 40) (.const (.int .i64 0)) 3, some (some 38, false), false, [], false⟩,
 ⟨some 42, .move (.tmp 41), some (some 38, false), false, [], false⟩,
 ⟨some 43, .move (.tmp 2), some (some 42, true), false, [], false⟩,
 ⟨some 44, .fieldAddr 46 (.tmp 4) 2, some (some 42, true), false, [], false⟩,
 ⟨some 45, .load 3 (.tmp 44), some (some 42, true), false, [], false⟩,
 ⟨some 46, .fieldAddr 25 (.tmp 7) 1, some (some 42, true), false, [], false⟩,
 ⟨some 47, .load 3 (.tmp 46), some (some 42, true), false, [], false⟩,
 ⟨some 48, .call ⟨.value (.tmp 43), #[.tmp 45, .tmp 47], #[3, 3]⟩, some (some 42, true), false, [], false⟩,
 ⟨some 49, .pick (.tmp 42) (.tmp 48) (.const (.bool false)), some (some 38, false), false, [], false⟩,
 ⟨some 50, .pick (.tmp 38) (.const (.bool true)) (.tmp 49), none, false, [], false⟩,
 ⟨some 6, .assign (.tmp 50), none, false, [], false⟩])
 .ret))))
noncomputable def fi210 : FI := ⟨c210, 51, [.tmp 6], .plain⟩
noncomputable def c211 : XC :=
 (.seq
 (.reg false [
 ⟨some 2, .assign (.const (.bool false)), none, false, [], false⟩])
 (.seq
 (.reg false [
 ⟨some 3, .move (.tmp 0), none, false, [], false⟩,
 ⟨some 4, .nilCheck (.tmp 3), none, false, [], false⟩,
 ⟨some 5, .fieldAddr 186 (.tmp 4) 0, none, false, [], false⟩,
 ⟨some 6, .load 47 (.tmp 5), none, false, [], false⟩,
 ⟨some 7, .call ⟨.builtin .len, #[.tmp 6], #[47]⟩, none, false, [], false⟩,
 ⟨some 8, .binOp .eql 3 (.tmp 7) (.const (.int .i64 0)) 3, none, false, [], false⟩,
 ⟨some 9, .move (.tmp 8), none, false, [], false⟩,
 ⟨some 10, .move (.tmp 0), some (some 9, true), false, [], false⟩,
 ⟨some 11, .nilCheck (.tmp 10), some (some 9, true), false, [], false⟩,
 ⟨some 12, .fieldAddr 186 (.tmp 11) 1, some (some 9, true), false, [], false⟩,
 ⟨some 13, .fieldAddr 29 (.tmp 12) 0, some (some 9, true), false, [], false⟩,
 ⟨some 14, .load 3 (.tmp 13), some (some 9, true), false, [], false⟩,
 ⟨some 15, .binOp .eql 3 (.tmp 14) (.const (.int .i64 1)) 3, some (some 9, true), false, [], false⟩,
 ⟨some 16, .pick (.tmp 9) (.tmp 15) (.const (.bool false)), none, false, [], false⟩,
 ⟨some 2, .assign (.tmp 16), none, false, [], false⟩])
 .ret))
noncomputable def fi211 : FI := ⟨c211, 17, [.tmp 2], .plain⟩
noncomputable def c212 : XC :=
 (.seq
 (.reg false [
 ⟨some 2, .assign (.const (.int .i64 0)), none, false, [], false⟩])
 (.seq
 (.seq
 (.reg false [
 ⟨some 5, .move (.tmp 0), none, false, [], false⟩,
 ⟨some 6, .call ⟨.builtin .len, #[.tmp 5], #[22]⟩, none, false, [], false⟩,
 ⟨some 7, .binOp .lss 3 (.tmp 6) (.const (.int .i64 1)) 3, none, false, [], false⟩])
 (.cond (.tmp 7)
 (.reg false [
 ⟨some 8, .makeInterface 9 (.const (.string ⟨#[115, 108, 105, 99, 101, 115, 46, 77, 105, 110, 58, 32, 101, 109, 112, 116, 121, 32, 108, 105, 115, 116]⟩)), none, false, [], false⟩,
 ⟨none, .panic (.tmp 8), none, false, [], false⟩])
 .skip))
 (.seq
 (.reg false [
 ⟨some 9, .move (.tmp 0), none, false, [], false⟩,
 ⟨some 10, .indexAddr 22 (.tmp 9) (.const (.int .i64 0)), none, false, [], false⟩,
 ⟨some 11, .load 3 (.tmp 10), none, false, [], false⟩,
 ⟨some 3, .assign (.tmp 11), none, false, [], false⟩])
 (.seq
 (.seq
 (.reg false [
 ⟨some 4, .assign (.const (.int .i64 1)), none, false, [], false⟩])
 (.block 0
 (.loop
 (.seq
 (.seq
 (.reg false [
 ⟨some 12, .move (.tmp 4), none, false, [], false⟩,
 ⟨some 13, .move (.tmp 0), none, false, [], false⟩,
 ⟨some 14, .call ⟨.builtin .len, #[.tmp 13], #[22]⟩, none, false, [], false⟩,
 ⟨some 15, .binOp .lss 3 (.tmp 12) (.tmp 14) 3, none, false, [], false⟩])
 (.cond (.tmp 15)
 .skip
 (.exit 0)))
 (.seq
 (.block 1
 (.reg false [
 ⟨some 18, .move (.tmp 3), none, false, [], false⟩,
 ⟨some 19, .move (.tmp 0), none, false, [], false⟩,
 ⟨some 20, .move (.tmp 4), none, false, [], false⟩,
 ⟨some 21, .indexAddr 22 (.tmp 19) (.tmp 20), none, false, [], false⟩,
 ⟨some 22, .load 3 (.tmp 21), none, false, [], false⟩,
 ⟨some 23, .call ⟨.builtin .min, #[.tmp 18, .tmp 22], #[3, 3]⟩, none, false, [], false⟩,
 ⟨some 3, .assign (.tmp 23), none, false, [], false⟩]))
 (.reg false [
 ⟨some 16, .move (.tmp 4), none, false, [], false⟩,
 ⟨some 17, .binOp .add 3 (.tmp 16) (.const (.int .i64 1)) 3, none, false, [], false⟩,
 ⟨some 4, .assign (.tmp 17), none, false, [], false⟩]))))))
 (.seq
 (.reg false [
 ⟨some 24, .move (.tmp 3), none, false, [], false⟩,
 ⟨some 2, .assign (.tmp 24), none, false, [], false⟩])
 .ret)))))
noncomputable def fi212 : FI := ⟨c212, 25, [.tmp 2], .plain⟩
noncomputable def c213 : XC :=
 (.seq
 (.reg false [
 ⟨some 4, .assign (.const (.int .i64 0)), none, false, [], false⟩])
 (.seq
 (.seq
 (.reg false [
 ⟨some 5, .assign (.const (.int .i64 0)), none, false, [], false⟩])
 (.block 0
 (.loop
 (.seq
 (.seq
 (.reg false [
 ⟨some 8, .move (.tmp 5), none, false, [], false⟩,
 ⟨some 9, .move (.tmp 0), none, false, [], false⟩,
 ⟨some 10, .call ⟨.builtin .len, #[.tmp 9], #[23]⟩, none, false, [], false⟩,
 ⟨some 11, .binOp .lss 3 (.tmp 8) (.tmp 10) 3, none, false, [], false⟩])
 (.cond (.tmp 11)
 .skip
 (.exit 0)))
 (.seq
 (.block 1
 (.seq
 (.seq
 (.reg false [
 ⟨some 14, .move (.tmp 0), none, false, [], false⟩,
 ⟨some 15, .move (.tmp 1), none, false, [], false⟩,
 ⟨some 16, .indexAddr 23 (.tmp 14) (.tmp 15), none, false, [], false⟩,
 ⟨some 17, .load 49 (.tmp 16), none, false, [], false⟩,
 ⟨some 18, .call ⟨.value (.func 223), #[.tmp 17], #[49]⟩, none, false, [], false⟩,
 ⟨some 19, .unOp .not 4 (.tmp 18), none, false, [], false⟩])
 (.cond (.tmp 19)
 (.seq
 (.reg false [
 ⟨some 20, .move (.tmp 1), none, false, [], false⟩,
 ⟨some 4, .assign (.tmp 20), none, false, [], false⟩])
 .ret)
 .skip))
 (.reg false [
 ⟨some 21, .move (.tmp 0), none, false, [], false⟩,
 ⟨some 22, .move (.tmp 1), none, false, [], false⟩,
 ⟨some 23, .indexAddr 23 (.tmp 21) (.tmp 22), none, false, [], false⟩,
 ⟨some 24, .fieldAddr 49 (.tmp 23) 1, none, false, [], false⟩,
 ⟨some 25, .fieldAddr 29 (.tmp 24) 2, none, false, [], false⟩,
 ⟨some 26, .load 3 (.tmp 25), none, false, [], false⟩,
 ⟨some 1, .assign (.tmp 26), none, false, [], false⟩])))
 (.reg false [
 ⟨some 12, .move (.tmp 5), none, false, [], false⟩,
 ⟨some 13, .binOp .add 3 (.tmp 12) (.const (.int .i64 1)) 3, none, false, [], false⟩,
 ⟨some 5, .assign (.tmp 13), none, false, [], false⟩]))))))
 (.seq
 (.seq
 (.reg false [
 ⟨some 27, .move (.tmp 0), none, false, [], false⟩,
 ⟨some 28, .move (.tmp 1), none, false, [], false⟩,
 ⟨some 29, .indexAddr 23 (.tmp 27) (.tmp 28), none, false, [], false⟩,
 ⟨some 30, .load 49 (.tmp 29), none, false, [], false⟩,
 ⟨some 31, .call ⟨.value (.func 223), #[.tmp 30], #[49]⟩, none, false, [], false⟩,
 ⟨some 32, .unOp .not 4 (.tmp 31), none, false, [], false⟩])
 (.cond (.tmp 32)
 (.seq
 (.reg false [
 ⟨some 33, .move (.tmp 1), none, false, [], false⟩,
 ⟨some 4, .assign (.tmp 33), none, false, [], false⟩])
 .ret)
 .skip))
 (.seq
 (.reg false [
 ⟨some 34, .move (.tmp 1), none, false, [], false⟩,
 ⟨some 6, .assign (.tmp 34), none, false, [], false⟩])
 (.seq
 (.reg false [
 ⟨some 35, .move (.tmp 0), none, false, [], false⟩,
 ⟨some 36, .move (.tmp 1), none, false, [], false⟩,
 ⟨some 37, .indexAddr 23 (.tmp 35) (.tmp 36), none, false, [], false⟩,
 ⟨some 38, .fieldAddr 49 (.tmp 37) 1, none, false, [], false⟩,
 ⟨some 39, .fieldAddr 29 (.tmp 38) 2, none, false, [], false⟩,
 ⟨some 40, .load 3 (.tmp 39), none, false, [], false⟩,
 ⟨some 7, .assign (.tmp 40), none, false, [], false⟩])
 (.seq
 (.block 2
 (.loop
 (.seq
 (.seq
 (.reg false [
 ⟨some 41, .move (.tmp 7), none, false, [], false⟩,
 ⟨some 42, .move (.tmp 1), none, false, [], false⟩,
 ⟨some 43, .binOp .neq 3 (.tmp 41) (.tmp 42) 3, none, false, [], false⟩])
 (.cond (.tmp 43)
 .skip
 (.exit 2)))
 (.block 3
 (.seq
 (.reg false [
 ⟨some 44, .move (.tmp 6), none, false, [], false⟩,
 ⟨some 45, .move (.tmp 7), none, false, [], false⟩,
 ⟨some 46, .call ⟨.builtin .min, #[.tmp 44, .tmp 45], #[3, 3]⟩, none, false, [], false⟩,
 ⟨some 6, .assign (.tmp 46), none, false, [], false⟩])
 (.reg false [
 ⟨some 47, .move (.tmp 0), none, false, [], false⟩,
 ⟨some 48, .move (.tmp 7), none, false, [], false⟩,
 ⟨some 49, .indexAddr 23 (.tmp 47) (.tmp 48), none, false, [], false⟩,
 ⟨some 50, .fieldAddr 49 (.tmp 49) 1, none, false, [], false⟩,
 ⟨some 51, .fieldAddr 29 (.tmp 50) 2, none, false, [], false⟩,
 ⟨some 52, .load 3 (.tmp 51), none, false, [], false⟩,
 ⟨some 7, .assign (.tmp 52), none, false, [], false⟩]))))))
 (.seq
 (.reg false [
 ⟨some 53, .move (.tmp 6), none, false, [], false⟩,
 ⟨some 4, .assign (.tmp 53), none, false, [], false⟩])
 .ret)))))))
noncomputable def fi213 : FI := ⟨c213, 54, [.tmp 4], .plain⟩
noncomputable def c214 : XC :=
 (.seq
 (.reg false [
 ⟨some 6, .assign (.const (.int .i64 0)), none, false, [], false⟩])
 (.seq
 (.reg false [
 ⟨some 7, .assign (.const (.int .i64 0)), none, false, [], false⟩])
 (.seq
 (.seq
 (.reg false [
 ⟨some 8, .assign (.const (.int .i64 0)), none, false, [], false⟩])
 (.block 0
 (.loop
 (.seq
 (.seq
 (.reg false [
 ⟨some 9, .move (.tmp 8), none, false, [], false⟩,
 ⟨some 10, .move (.tmp 0), none, false, [], false⟩,
 ⟨some 11, .call ⟨.builtin .len, #[.tmp 10], #[23]⟩, none, false, [], false⟩,
 ⟨some 12, .binOp .lss 3 (.tmp 9) (.tmp 11) 3, none, false, [], false⟩])
 (.cond (.tmp 12)
 .skip
 (.exit 0)))
 (.seq
 (.block 1
 (.seq
 (.seq
 (.reg false [
 ⟨some 15, .move (.tmp 1), none, false, [], false⟩,
 ⟨some 16, .move (.tmp 8), none, false, [], false⟩,
 ⟨some 17, .indexAddr 56 (.tmp 15) (.tmp 16), none, false, [], false⟩,
 ⟨some 18, .load 4 (.tmp 17), none, false, [], false⟩,
 ⟨some 19, .move (.tmp 18), none, false, [], false⟩,
 ⟨some 20, .move (.tmp 0), some (some 19, true), false, [], false⟩,
 ⟨some 21, .move (.tmp 8), some (some 19, true), false, [], false⟩,
 ⟨some 22, .indexAddr 23 (.tmp 20) (.tmp 21), some (some 19, true), false, [], false⟩,
 ⟨some 23, .fieldAddr 49 (.tmp 22) 1, some (some 19, true), false, [], false⟩,
 ⟨some 24, .fieldAddr 29 (.tmp 23) 0, some (some 19, true), false, [], false⟩,
 ⟨some 25, .load 3 (.tmp 24), some (some 19, true), false, [], false⟩,
 ⟨some 26, .binOp .neq 3 (.tmp 25) (.const (.int .i64 3)) 3, some (some 19, true), false, [], false⟩,
 ⟨some 27, .pick (.tmp 19) (.tmp 26) (.const (.bool false)), none, false, [], false⟩,
 ⟨some 28, .move (.tmp 27), none, false, [], false⟩,
 ⟨some 29, .move (.tmp 0), some (some 28, true), false, [], false⟩,
 ⟨some 30, .move (.tmp 8), some (some 28, true), false, [], false⟩,
 ⟨some 31, .indexAddr 23 (.tmp 29) (.tmp 30), some (some 28, true), false, [], false⟩,
 ⟨some 32, .fieldAddr 49 (.tmp 31) 1, some (some 28, true), false, [], false⟩,
 ⟨some 33, .fieldAddr 29 (.tmp 32) 2, some (some 28, true), false, [], false⟩,
 ⟨some 34, .load 3 (.tmp 33), some (some 28, true), false, [], false⟩,
 ⟨some 35, .move (.tmp 2), some (some 28, true), false, [], false⟩,
 ⟨some 36, .binOp .eql 3 (.tmp 34) (.tmp 35) 3, some (some 28, true), false, [], false⟩,
 ⟨some 37, .pick (.tmp 28) (.tmp 36) (.const (.bool false)), none, false, [], false⟩])
 (.cond (.tmp 37)
 (.reg false [
 ⟨some 38, .move (.tmp 7), none, false, [], false⟩,
 ⟨some 39, .binOp .add 3 (.tmp 38) (.const (.int .i64 1)) 3, none, false, [], false⟩,
 ⟨some 7, .assign (.tmp 39), none, false, [], false⟩])
 .skip))
 (.seq
 (.reg false [
 ⟨some 40, .move (.tmp 1), none, false, [], false⟩,
 ⟨some 41, .move (.tmp 8), none, false, [], false⟩,
 ⟨some 42, .indexAddr 56 (.tmp 40) (.tmp 41), none, false, [], false⟩,
 ⟨some 43, .load 4 (.tmp 42), none, false, [], false⟩,
 ⟨some 44, .move (.tmp 43), none, false, [], false⟩,
 ⟨some 45, .move (.tmp 0), some (some 44, true), false, [], false⟩,
 ⟨some 46, .move (.tmp 8), some (some 44, true), false, [], false⟩,
 ⟨some 47, .indexAddr 23 (.tmp 45) (.tmp 46), some (some 44, true), false, [], false⟩,
 ⟨some 48, .fieldAddr 49 (.tmp 47) 1, some (some 44, true), false, [], false⟩,
 ⟨some 49, .fieldAddr 29 (.tmp 48) 0, some (some 44, true), false, [], false⟩,
 ⟨some 50, .load 3 (.tmp 49), some (some 44, true), false, [], false⟩,
 ⟨some 51, .binOp .eql 3 (.tmp 50) (.const (.int .i64 2)) 3, some (some 44, true), false, [], false⟩,
 ⟨some 52, .pick (.tmp 44) (.tmp 51) (.const (.bool false)), none, false, [], false⟩,
 ⟨some 53, .move (.tmp 52), none, false, [], false⟩,
 ⟨some 54, .move (.tmp 0), some (some 53, true), false, [], false⟩,
 ⟨some 55, .move (.tmp 8), some (some 53, true), false, [], false⟩,
 ⟨some 56, .indexAddr 23 (.tmp 54) (.tmp 55), some (some 53, true), false, [], false⟩,
 ⟨some 57, .fieldAddr 49 (.tmp 56) 1, some (some 53, true), false, [], false⟩,
 ⟨some 58, .fieldAddr 29 (.tmp 57) 3, some (some 53, true), false, [], false⟩,
 ⟨some 59, .load 3 (.tmp 58), some (some 53, true), false, [], false⟩,
 ⟨some 60, .move (.tmp 2), some (some 53, true), false, [], false⟩,
 ⟨some 61, .binOp .eql 3 (.tmp 59) (.tmp 60) 3, some (some 53, true), false, [], false⟩,
 ⟨some 62, .pick (.tmp 53) (.tmp 61) (.const (.bool false)), none, false, [], false⟩])
 (.cond (.tmp 62)
 (.reg false [
 ⟨some 63, .move (.tmp 7), none, false, [], false⟩,
 ⟨some 64, .binOp .add 3 (.tmp 63) (.const (.int .i64 1)) 3, none, false, [], false⟩,
 ⟨some 7, .assign (.tmp 64), none, false, [], false⟩])
 .skip))))
 (.reg false [
 ⟨some 13, .move (.tmp 8), none, false, [], false⟩,
 ⟨some 14, .binOp .add 3 (.tmp 13) (.const (.int .i64 1)) 3, none, false, [], false⟩,
 ⟨some 8, .assign (.tmp 14), none, false, [], false⟩]))))))
 (.seq
 (.reg false [
 ⟨some 65, .move (.tmp 7), none, false, [], false⟩,
 ⟨some 6, .assign (.tmp 65), none, false, [], false⟩])
 .ret))))
noncomputable def fi214 : FI := ⟨c214, 66, [.tmp 6], .plain⟩
noncomputable def c215 : XC :=
 (.seq
 (.reg false [
 ⟨some 8, .assign (.const (.int .i64 0)), none, false, [], false⟩,
 ⟨some 9, .assign (.const (.int .i64 0)), none, false, [], false⟩])
 (.seq
 (.seq
 (.reg false [
 ⟨some 12, .move (.tmp 0), none, false, [], false⟩,
 ⟨some 13, .binOp .eql 9 (.tmp 12) (.const (.string ⟨#[47]⟩)) 9, none, false, [], false⟩,
 ⟨some 14, .move (.tmp 13), none, false, [], false⟩,
 ⟨some 15, .move (.tmp 0), some (some 14, false), false, [], false⟩,
 ⟨some 16, .binOp .eql 9 (.tmp 15) (.const (.string ⟨#[37]⟩)) 9, some (some 14, false), false, [], false⟩,
 ⟨some 17, .pick (.tmp 14) (.const (.bool true)) (.tmp 16), none, false, [], false⟩])
 (.cond (.tmp 17)
 (.seq
 (.reg false [
 ⟨some 19, .move (.tmp 0), none, false, [], false⟩,
 ⟨some 20, .move (.tmp 1), none, false, [], false⟩,
 ⟨some 21, .move (.tmp 2), none, false, [], false⟩,
 ⟨some 22, .call ⟨.value (.func 224), #[.tmp 19, .tmp 20, .tmp 21], #[9, 21, 21]⟩, none, false, [], false⟩,
 ⟨some 18, .move (.tmp 22), none, false, [], false⟩,
 ⟨some 23, .extract (.tmp 18) 0, none, false, [], false⟩,
 ⟨some 24, .extract (.tmp 18) 1, none, false, [], false⟩,
 ⟨some 10, .assign (.tmp 23), none, false, [], false⟩,
 ⟨some 11, .assign (.tmp 24), none, false, [], false⟩])
 (.seq
 (.reg false [
 ⟨some 25, .move (.tmp 10), none, false, [], false⟩,
 ⟨some 26, .convert 21 3 (.tmp 25), none, false, [], false⟩,
 ⟨some 27, .move (.tmp 11), none, false, [], false⟩,
 ⟨some 8, .assign (.tmp 26), none, false, [], false⟩,
 ⟨some 9, .assign (.tmp 27), none, false, [], false⟩])
 .ret))
 .skip))
 (.seq
 (.reg false [
 ⟨some 28, .move (.tmp 0), none, false, [], false⟩,
 ⟨some 29, .move (.tmp 1), none, false, [], false⟩,
 ⟨some 30, .move (.tmp 2), none, false, [], false⟩,
 ⟨some 31, .move (.tmp 3), none, false, [], false⟩,
 ⟨some 32, .call ⟨.value (.func 225), #[.tmp 28, .tmp 29, .tmp 30, .tmp 31], #[9, 21, 21, 3]⟩, none, false, [], false⟩,
 ⟨some 33, .convert 21 3 (.tmp 32), none, false, [], false⟩,
 ⟨some 8, .assign (.tmp 33), none, false, [], false⟩,
 ⟨some 9, .assign (.const (.int .i64 0)), none, false, [], false⟩])
 .ret)))
noncomputable def fi215 : FI := ⟨c215, 34, [.tmp 8, .tmp 9], .plain⟩
noncomputable def c216 : XC :=
 (.seq
 (.reg false [
 ⟨some 8, .assign (.const (.int .i64 0)), none, false, [], false⟩,
 ⟨some 9, .assign (.const (.int .i64 0)), none, false, [], false⟩])
 (.seq
 (.seq
 (.reg false [
 ⟨some 12, .move (.tmp 0), none, false, [], false⟩,
 ⟨some 13, .binOp .eql 9 (.tmp 12) (.const (.string ⟨#[47]⟩)) 9, none, false, [], false⟩,
 ⟨some 14, .move (.tmp 13), none, false, [], false⟩,
 ⟨some 15, .move (.tmp 0), some (some 14, false), false, [], false⟩,
 ⟨some 16, .binOp .eql 9 (.tmp 15) (.const (.string ⟨#[37]⟩)) 9, some (some 14, false), false, [], false⟩,
 ⟨some 17, .pick (.tmp 14) (.const (.bool true)) (.tmp 16), none, false, [], false⟩])
 (.cond (.tmp 17)
 (.seq
 (.reg false [
 ⟨some 19, .move (.tmp 0), none, false, [], false⟩,
 ⟨some 20, .move (.tmp 1), none, false, [], false⟩,
 ⟨some 21, .move (.tmp 2), none, false, [], false⟩,
 ⟨some 22, .call ⟨.value (.func 226), #[.tmp 19, .tmp 20, .tmp 21], #[9, 2, 2]⟩, none, false, [], false⟩,
 ⟨some 18, .move (.tmp 22), none, false, [], false⟩,
 ⟨some 23, .extract (.tmp 18) 0, none, false, [], false⟩,
 ⟨some 24, .extract (.tmp 18) 1, none, false, [], false⟩,
 ⟨some 10, .assign (.tmp 23), none, false, [], false⟩,
 ⟨some 11, .assign (.tmp 24), none, false, [], false⟩])
 (.seq
 (.reg false [
 ⟨some 25, .move (.tmp 10), none, false, [], false⟩,
 ⟨some 26, .move (.tmp 11), none, false, [], false⟩,
 ⟨some 8, .assign (.tmp 25), none, false, [], false⟩,
 ⟨some 9, .assign (.tmp 26), none, false, [], false⟩])
 .ret))
 .skip))
 (.seq
 (.reg false [
 ⟨some 27, .move (.tmp 0), none, false, [], false⟩,
 ⟨some 28, .move (.tmp 1), none, false, [], false⟩,
 ⟨some 29, .move (.tmp 2), none, false, [], false⟩,
 ⟨some 30, .move (.tmp 3), none, false, [], false⟩,
 ⟨some 31, .call ⟨.value (.func 227), #[.tmp 27, .tmp 28, .tmp 29, .tmp 30], #[9, 2, 2, 3]⟩, none, false, [], false⟩,
 ⟨some 8, .assign (.tmp 31), none, false, [], false⟩,
 ⟨some 9, .assign (.const (.int .i64 0)), none, false, [], false⟩])
 .ret)))
noncomputable def fi216 : FI := ⟨c216, 32, [.tmp 8, .tmp 9], .plain⟩
noncomputable def c222 : XC :=
 (.seq
 (.reg false [
 ⟨some 4, .assign (.const (.int .i64 0)), none, false, [], false⟩])
 (.seq
 (.seq
 (.reg false [
 ⟨some 6, .move (.tmp 0), none, false, [], false⟩,
 ⟨some 7, .call ⟨.builtin .len, #[.tmp 6], #[22]⟩, none, false, [], false⟩,
 ⟨some 8, .move (.const (.int .i64 0)), none, false, [], false⟩])
 (.block 0
 (.loop
 (.seq
 (.reg false [
 ⟨some 9, .binOp .lss 3 (.tmp 8) (.tmp 7) 3, none, false, [], false⟩])
 (.seq
 (.cond (.tmp 9)
 .skip
 (.exit 0))
 (.seq
 (.block 1
 (.seq
 (.reg false [
 ⟨some 10, .move (.tmp 8), none, false, [], false⟩,
 ⟨some 5, .assign (.tmp 10), none, false, [], false⟩])
 (.seq
 (.reg false [
 ⟨some 11, .move (.tmp 1), none, false, [], false⟩,
 ⟨some 12, .move (.tmp 0), none, false, [], false⟩,
 ⟨some 13, .move (.tmp 5), none, false, [], false⟩,
 ⟨some 14, .indexAddr 22 (.tmp 12) (.tmp 13), none, false, [], false⟩,
 ⟨some 15, .load 3 (.tmp 14), none, false, [], false⟩,
 ⟨some 16, .binOp .eql 3 (.tmp 11) (.tmp 15) 3, none, false, [], false⟩])
 (.cond (.tmp 16)
 (.seq
 (.reg false [
 ⟨some 17, .move (.tmp 5), none, false, [], false⟩,
 ⟨some 4, .assign (.tmp 17), none, false, [], false⟩])
 .ret)
 .skip))))
 (.reg false [
 ⟨some 18, .binOp .add 3 (.tmp 8) (.const (.int .i64 1)) 3, none, false, [], false⟩,
 ⟨some 8, .move (.tmp 18), none, false, [], false⟩])))))))
 (.seq
 (.reg false [
 ⟨some 4, .assign (.const (.int .i64 (-1))), none, false, [], false⟩])
 .ret)))
noncomputable def fi222 : FI := ⟨c222, 19, [.tmp 4], .plain⟩
noncomputable def c223 : XC :=
 (.seq
 (.reg false [
 ⟨some 1, .box 49 (.tmp 0), none, false, [], false⟩,
 ⟨some 2, .assign (.const (.bool false)), none, false, [], false⟩])
 (.seq
 (.reg false [
 ⟨some 3, .fieldAddr 49 (.tmp 1) 0, none, false, [], false⟩,
 ⟨some 4, .load 47 (.tmp 3), none, false, [], false⟩,
 ⟨some 5, .call ⟨.builtin .len, #[.tmp 4], #[47]⟩, none, false, [], false⟩,
 ⟨some 6, .binOp .eql 3 (.tmp 5) (.const (.int .i64 0)) 3, none, false, [], false⟩,
 ⟨some 7, .move (.tmp 6), none, false, [], false⟩,
 ⟨some 8, .fieldAddr 49 (.tmp 1) 1, some (some 7, true), false, [], false⟩,
 ⟨some 9, .fieldAddr 29 (.tmp 8) 0, some (some 7, true), false, [], false⟩,
 ⟨some 10, .load 3 (.tmp 9), some (some 7, true), false, [], false⟩,
 ⟨some 11, .binOp .eql 3 (.tmp 10) (.const (.int .i64 1)) 3, some (some 7, true), false, [], false⟩,
 ⟨some 12, .pick (.tmp 7) (.tmp 11) (.const (.bool false)), none, false, [], false⟩,
 ⟨some 2, .assign (.tmp 12), none, false, [], false⟩])
 .ret))
noncomputable def fi223 : FI := ⟨c223, 13, [.tmp 2], .plain⟩
noncomputable def c224 : XC :=
 (.seq
 (.reg false [
 ⟨some 6, .assign (.const (.int .i32 0)), none, false, [], false⟩,
 ⟨some 7, .assign (.const (.int .i64 0)), none, false, [], false⟩])
 (.seq
 (.block 0
 (.seq
 (.reg false [
 ⟨some 9, .move (.tmp 2), none, false, [], false⟩,
 ⟨some 10, .binOp .eql 21 (.tmp 9) (.const (.int .i32 0)) 21, none, false, [], false⟩,
 ⟨some 8, .assign (.tmp 10), none, false, [], false⟩])
 (.cond (.tmp 8)
 (.seq
 (.reg false [
 ⟨some 6, .assign (.const (.int .i32 0)), none, false, [], false⟩,
 ⟨some 7, .assign (.const (.int .i64 1)), none, false, [], false⟩])
 .ret)
 (.seq
 (.reg false [
 ⟨some 12, .move (.tmp 0), none, false, [], false⟩,
 ⟨some 13, .binOp .eql 9 (.tmp 12) (.const (.string ⟨#[37]⟩)) 9, none, false, [], false⟩,
 ⟨some 14, .move (.tmp 13), none, false, [], false⟩,
 ⟨some 15, .move (.tmp 2), some (some 14, true), false, [], false⟩,
 ⟨some 16, .binOp .eql 21 (.tmp 15) (.const (.int .i32 (-1))) 21, some (some 14, true), false, [], false⟩,
 ⟨some 17, .pick (.tmp 14) (.tmp 16) (.const (.bool false)), none, false, [], false⟩,
 ⟨some 11, .assign (.tmp 17), none, false, [], false⟩])
 (.cond (.tmp 11)
 (.seq
 (.reg false [
 ⟨some 6, .assign (.const (.int .i32 0)), none, false, [], false⟩,
 ⟨some 7, .assign (.const (.int .i64 0)), none, false, [], false⟩])
 .ret)
 (.seq
 (.reg false [
 ⟨some 19, .move (.tmp 0), none, false, [], false⟩,
 ⟨some 20, .binOp .eql 9 (.tmp 19) (.const (.string ⟨#[37]⟩)) 9, none, false, [], false⟩,
 ⟨some 18, .assign (.tmp 20), none, false, [], false⟩])
 (.cond (.tmp 18)
 (.seq
 (.reg false [
 ⟨some 21, .move (.tmp 1), none, false, [], false⟩,
 ⟨some 22, .move (.tmp 2), none, false, [], false⟩,
 ⟨some 23, .binOp .rem 21 (.tmp 21) (.tmp 22) 21, none, false, [], false⟩,
 ⟨some 6, .assign (.tmp 23), none, false, [], false⟩,
 ⟨some 7, .assign (.const (.int .i64 0)), none, false, [], false⟩])
 .ret)
 (.seq
 (.reg false [
 ⟨some 25, .move (.tmp 2), none, false, [], false⟩,
 ⟨some 26, .binOp .eql 21 (.tmp 25) (.const (.int .i32 (-1))) 21, none, false, [], false⟩,
 ⟨some 27, .move (.tmp 26), none, false, [], false⟩,
 ⟨some 28, .move (.tmp 1), some (some 27, true), false, [], false⟩,
 ⟨some 29, .binOp .neq 21 (.tmp 28) (.const (.int .i32 0)) 21, some (some 27, true), false, [], false⟩,
 ⟨some 30, .pick (.tmp 27) (.tmp 29) (.const (.bool false)), none, false, [], false⟩,
 ⟨some 31, .move (.tmp 30), none, false, [], false⟩,
 ⟨some 32, .move (.tmp 1), some (some 31, true), false, [], false⟩,
 ⟨some 33, .unOp .neg 21 (.tmp 32), some (some 31, true), false, [], false⟩,
 ⟨some 34, .move (.tmp 1), some (some 31, true), false, [], false⟩,
 ⟨some 35, .binOp .eql 21 (.tmp 33) (.tmp 34) 21, some (some 31, true), false, [], false⟩,
 ⟨some 36, .pick (.tmp 31) (.tmp 35) (.const (.bool false)), none, false, [], false⟩,
 ⟨some 24, .assign (.tmp 36), none, false, [], false⟩])
 (.cond (.tmp 24)
 (.seq
 (.reg false [
 ⟨some 6, .assign (.const (.int .i32 0)), none, false, [], false⟩,
 ⟨some 7, .assign (.const (.int .i64 2)), none, false, [], false⟩])
 .ret)
 .skip)))))))))
 (.seq
 (.reg false [
 ⟨some 37, .move (.tmp 1), none, false, [], false⟩,
 ⟨some 38, .move (.tmp 2), none, false, [], false⟩,
 ⟨some 39, .binOp .quo 21 (.tmp 37) (.tmp 38) 21, none, false, [], false⟩,
 ⟨some 6, .assign (.tmp 39), none, false, [], false⟩,
 ⟨some 7, .assign (.const (.int .i64 0)), none, false, [], false⟩])
 .ret)))
noncomputable def fi224 : FI := ⟨c224, 40, [.tmp 6, .tmp 7], .plain⟩
noncomputable def c225 : XC :=
 (.seq
 (.reg false [
 ⟨some 8, .assign (.const (.int .i32 0)), none, false, [], false⟩])
 (.seq
 (.reg false [
 ⟨some 10, .move (.tmp 2), none, false, [], false⟩,
 ⟨some 11, .convert 21 221 (.tmp 10), none, false, [], false⟩,
 ⟨some 12, .move (.tmp 3), none, false, [], false⟩,
 ⟨some 13, .binOp .sub 3 (.tmp 12) (.const (.int .i64 1)) 3, none, false, [], false⟩,
 ⟨some 14, .convert 3 221 (.tmp 13), none, false, [], false⟩,
 ⟨some 15, .binOp .and 221 (.tmp 11) (.tmp 14) 221, none, false, [], false⟩,
 ⟨some 9, .assign (.tmp 15), none, false, [], false⟩])
 (.seq
 (.seq
 (.reg false [
 ⟨some 16, .move (.tmp 0), none, false, [], false⟩])
 (.block 0
 (.seq
 (.reg false [
 ⟨some 18, .binOp .eql 9 (.tmp 16) (.const (.string ⟨#[43]⟩)) 9, none, false, [], false⟩,
 ⟨some 17, .assign (.tmp 18), none, false, [], false⟩])
 (.cond (.tmp 17)
 (.seq
 (.reg false [
 ⟨some 19, .move (.tmp 1), none, false, [], false⟩,
 ⟨some 20, .move (.tmp 2), none, false, [], false⟩,
 ⟨some 21, .binOp .add 21 (.tmp 19) (.tmp 20) 21, none, false, [], false⟩,
 ⟨some 8, .assign (.tmp 21), none, false, [], false⟩])
 .ret)
 (.seq
 (.reg false [
 ⟨some 23, .binOp .eql 9 (.tmp 16) (.const (.string ⟨#[45]⟩)) 9, none, false, [], false⟩,
 ⟨some 22, .assign (.tmp 23), none, false, [], false⟩])
 (.cond (.tmp 22)
 (.seq
 (.reg false [
 ⟨some 24, .move (.tmp 1), none, false, [], false⟩,
 ⟨some 25, .move (.tmp 2), none, false, [], false⟩,
 ⟨some 26, .binOp .sub 21 (.tmp 24) (.tmp 25) 21, none, false, [], false⟩,
 ⟨some 8, .assign (.tmp 26), none, false, [], false⟩])
 .ret)
 (.seq
 (.reg false [
 ⟨some 28, .binOp .eql 9 (.tmp 16) (.const (.string ⟨#[42]⟩)) 9, none, false, [], false⟩,
 ⟨some 27, .assign (.tmp 28), none, false, [], false⟩])
 (.cond (.tmp 27)
 (.seq
 (.reg false [
 ⟨some 29, .move (.tmp 1), none, false, [], false⟩,
 ⟨some 30, .move (.tmp 2), none, false, [], false⟩,
 ⟨some 31, .binOp .mul 21 (.tmp 29) (.tmp 30) 21, none, false, [], false⟩,
 ⟨some 8, .assign (.tmp 31), none, false, [], false⟩])
 .ret)
 (.seq
 (.reg false [
 ⟨some 33, .binOp .eql 9 (.tmp 16) (.const (.string ⟨#[38]⟩)) 9, none, false, [], false⟩,
 ⟨some 32, .assign (.tmp 33), none, false, [], false⟩])
 (.cond (.tmp 32)
 (.seq
 (.reg false [
 ⟨some 34, .move (.tmp 1), none, false, [], false⟩,
 ⟨some 35, .move (.tmp 2), none, false, [], false⟩,
 ⟨some 36, .binOp .and 21 (.tmp 34) (.tmp 35) 21, none, false, [], false⟩,
 ⟨some 8, .assign (.tmp 36), none, false, [], false⟩])
 .ret)
 (.seq
 (.reg false [
 ⟨some 38, .binOp .eql 9 (.tmp 16) (.const (.string ⟨#[124]⟩)) 9, none, false, [], false⟩,
 ⟨some 37, .assign (.tmp 38), none, false, [], false⟩])
 (.cond (.tmp 37)
 (.seq
 (.reg false [
 ⟨some 39, .move (.tmp 1), none, false, [], false⟩,
 ⟨some 40, .move (.tmp 2), none, false, [], false⟩,
 ⟨some 41, .binOp .or 21 (.tmp 39) (.tmp 40) 21, none, false, [], false⟩,
 ⟨some 8, .assign (.tmp 41), none, false, [], false⟩])
 .ret)
 (.seq
 (.reg false [
 ⟨some 43, .binOp .eql 9 (.tmp 16) (.const (.string ⟨#[94]⟩)) 9, none, false, [], false⟩,
 ⟨some 42, .assign (.tmp 43), none, false, [], false⟩])
 (.cond (.tmp 42)
 (.seq
 (.reg false [
 ⟨some 44, .move (.tmp 1), none, false, [], false⟩,
 ⟨some 45, .move (.tmp 2), none, false, [], false⟩,
 ⟨some 46, .binOp .xor 21 (.tmp 44) (.tmp 45) 21, none, false, [], false⟩,
 ⟨some 8, .assign (.tmp 46), none, false, [], false⟩])
 .ret)
 (.seq
 (.reg false [
 ⟨some 48, .binOp .eql 9 (.tmp 16) (.const (.string ⟨#[60, 60]⟩)) 9, none, false, [], false⟩,
 ⟨some 47, .assign (.tmp 48), none, false, [], false⟩])
 (.cond (.tmp 47)
 (.seq
 (.reg false [
 ⟨some 49, .move (.tmp 1), none, false, [], false⟩,
 ⟨some 50, .move (.tmp 9), none, false, [], false⟩,
 ⟨some 51, .binOp .shl 21 (.tmp 49) (.tmp 50) 221, none, false, [], false⟩,
 ⟨some 8, .assign (.tmp 51), none, false, [], false⟩])
 .ret)
 (.seq
 (.reg false [
 ⟨some 53, .binOp .eql 9 (.tmp 16) (.const (.string ⟨#[62, 62]⟩)) 9, none, false, [], false⟩,
 ⟨some 52, .assign (.tmp 53), none, false, [], false⟩])
 (.cond (.tmp 52)
 (.seq
 (.reg false [
 ⟨some 54, .move (.tmp 1), none, false, [], false⟩,
 ⟨some 55, .move (.tmp 9), none, false, [], false⟩,
 ⟨some 56, .binOp .shr 21 (.tmp 54) (.tmp 55) 221, none, false, [], false⟩,
 ⟨some 8, .assign (.tmp 56), none, false, [], false⟩])
 .ret)
 (.seq
 (.reg false [
 ⟨some 58, .binOp .eql 9 (.tmp 16) (.const (.string ⟨#[61, 61]⟩)) 9, none, false, [], false⟩,
 ⟨some 57, .assign (.tmp 58), none, false, [], false⟩])
 (.cond (.tmp 57)
 (.seq
 (.reg false [
 ⟨some 59, .move (.tmp 1), none, false, [], false⟩,
 ⟨some 60, .move (.tmp 2), none, false, [], false⟩,
 ⟨some 61, .binOp .eql 21 (.tmp 59) (.tmp 60) 21, none, false, [], false⟩,
 ⟨some 62, .call ⟨.value (.func 230), #[.tmp 61], #[4]⟩, none, false, [], false⟩,
 ⟨some 8, .assign (.tmp 62), none, false, [], false⟩])
 .ret)
 (.seq
 (.reg false [
 ⟨some 64, .binOp .eql 9 (.tmp 16) (.const (.string ⟨#[33, 61]⟩)) 9, none, false, [], false⟩,
 ⟨some 63, .assign (.tmp 64), none, false, [], false⟩])
 (.cond (.tmp 63)
 (.seq
 (.reg false [
 ⟨some 65, .move (.tmp 1), none, false, [], false⟩,
 ⟨some 66, .move (.tmp 2), none, false, [], false⟩,
 ⟨some 67, .binOp .neq 21 (.tmp 65) (.tmp 66) 21, none, false, [], false⟩,
 ⟨some 68, .call ⟨.value (.func 230), #[.tmp 67], #[4]⟩, none, false, [], false⟩,
 ⟨some 8, .assign (.tmp 68), none, false, [], false⟩])
 .ret)
 (.seq
 (.reg false [
 ⟨some 70, .binOp .eql 9 (.tmp 16) (.const (.string ⟨#[60]⟩)) 9, none, false, [], false⟩,
 ⟨some 69, .assign (.tmp 70), none, false, [], false⟩])
 (.cond (.tmp 69)
 (.seq
 (.reg false [
 ⟨some 71, .move (.tmp 1), none, false, [], false⟩,
 ⟨some 72, .move (.tmp 2), none, false, [], false⟩,
 ⟨some 73, .binOp .lss 21 (.tmp 71) (.tmp 72) 21, none, false, [], false⟩,
 ⟨some 74, .call ⟨.value (.func 230), #[.tmp 73], #[4]⟩, none, false, [], false⟩,
 ⟨some 8, .assign (.tmp 74), none, false, [], false⟩])
 .ret)
 (.seq
 (.reg false [
 ⟨some 76, .binOp .eql 9 (.tmp 16) (.const (.string ⟨#[60, 61]⟩)) 9, none, false, [], false⟩,
 ⟨some 75, .assign (.tmp 76), none, false, [], false⟩])
 (.cond (.tmp 75)
 (.seq
 (.reg false [
 ⟨some 77, .move (.tmp 1), none, false, [], false⟩,
 ⟨some 78, .move (.tmp 2), none, false, [], false⟩,
 ⟨some 79, .binOp .leq 21 (.tmp 77) (.tmp 78) 21, none, false, [], false⟩,
 ⟨some 80, .call ⟨.value (.func 230), #[.tmp 79], #[4]⟩, none, false, [], false⟩,
 ⟨some 8, .assign (.tmp 80), none, false, [], false⟩])
 .ret)
 (.seq
 (.reg false [
 ⟨some 82, .binOp .eql 9 (.tmp 16) (.const (.string ⟨#[62]⟩)) 9, none, false, [], false⟩,
 ⟨some 81, .assign (.tmp 82), none, false, [], false⟩])
 (.cond (.tmp 81)
 (.seq
 (.reg false [
 ⟨some 83, .move (.tmp 1), none, false, [], false⟩,
 ⟨some 84, .move (.tmp 2), none, false, [], false⟩,
 ⟨some 85, .binOp .gtr 21 (.tmp 83) (.tmp 84) 21, none, false, [], false⟩,
 ⟨some 86, .call ⟨.value (.func 230), #[.tmp 85], #[4]⟩, none, false, [], false⟩,
 ⟨some 8, .assign (.tmp 86), none, false, [], false⟩])
 .ret)
 (.seq
 (.reg false [
 ⟨some 88, .binOp .eql 9 (.tmp 16) (.const (.string ⟨#[62, 61]⟩)) 9, none, false, [], false⟩,
 ⟨some 87, .assign (.tmp 88), none, false, [], false⟩])
 (.cond (.tmp 87)
 (.seq
 (.reg false [
 ⟨some 89, .move (.tmp 1), none, false, [], false⟩,
 ⟨some 90, .move (.tmp 2), none, false, [], false⟩,
 ⟨some 91, .binOp .geq 21 (.tmp 89) (.tmp 90) 21, none, false, [], false⟩,
 ⟨some 92, .call ⟨.value (.func 230), #[.tmp 91], #[4]⟩, none, false, [], false⟩,
 ⟨some 8, .assign (.tmp 92), none, false, [], false⟩])
 .ret)
 .skip))))))))))))))))))))))))))))))
 (.seq
 (.reg false [
 ⟨some 8, .assign (.const (.int .i32 0)), none, false, [], false⟩])
 .ret))))
noncomputable def fi225 : FI := ⟨c225, 93, [.tmp 8], .plain⟩
noncomputable def c226 : XC :=
 (.seq
 (.reg false [
 ⟨some 6, .assign (.const (.int .i64 0)), none, false, [], false⟩,
 ⟨some 7, .assign (.const (.int .i64 0)), none, false, [], false⟩])
 (.seq
 (.block 0
 (.seq
 (.reg false [
 ⟨some 9, .move (.tmp 2), none, false, [], false⟩,
 ⟨some 10, .binOp .eql 2 (.tmp 9) (.const (.int .i64 0)) 2, none, false, [], false⟩,
 ⟨some 8, .assign (.tmp 10), none, false, [], false⟩])
 (.cond (.tmp 8)
 (.seq
 (.reg false [
 ⟨some 6, .assign (.const (.int .i64 0)), none, false, [], false⟩,
 ⟨some 7, .assign (.const (.int .i64 1)), none, false, [], false⟩])
 .ret)
 (.seq
 (.reg false [
 ⟨some 12, .move (.tmp 0), none, false, [], false⟩,
 ⟨some 13, .binOp .eql 9 (.tmp 12) (.const (.string ⟨#[37]⟩)) 9, none, false, [], false⟩,
 ⟨some 14, .move (.tmp 13), none, false, [], false⟩,
 ⟨some 15, .move (.tmp 2), some (some 14, true), false, [], false⟩,
 ⟨some 16, .binOp .eql 2 (.tmp 15) (.const (.int .i64 (-1))) 2, some (some 14, true), false, [], false⟩,
 ⟨some 17, .pick (.tmp 14) (.tmp 16) (.const (.bool false)), none, false, [], false⟩,
 ⟨some 11, .assign (.tmp 17), none, false, [], false⟩])
 (.cond (.tmp 11)
 (.seq
 (.reg false [
 ⟨some 6, .assign (.const (.int .i64 0)), none, false, [], false⟩,
 ⟨some 7, .assign (.const (.int .i64 0)), none, false, [], false⟩])
 .ret)
 (.seq
 (.reg false [
 ⟨some 19, .move (.tmp 0), none, false, [], false⟩,
 ⟨some 20, .binOp .eql 9 (.tmp 19) (.const (.string ⟨#[37]⟩)) 9, none, false, [], false⟩,
 ⟨some 18, .assign (.tmp 20), none, false, [], false⟩])
 (.cond (.tmp 18)
 (.seq
 (.reg false [
 ⟨some 21, .move (.tmp 1), none, false, [], false⟩,
 ⟨some 22, .move (.tmp 2), none, false, [], false⟩,
 ⟨some 23, .binOp .rem 2 (.tmp 21) (.tmp 22) 2, none, false, [], false⟩,
 ⟨some 6, .assign (.tmp 23), none, false, [], false⟩,
 ⟨some 7, .assign (.const (.int .i64 0)), none, false, [], false⟩])
 .ret)
 (.seq
 (.reg false [
 ⟨some 25, .move (.tmp 2), none, false, [], false⟩,
 ⟨some 26, .binOp .eql 2 (.tmp 25) (.const (.int .i64 (-1))) 2, none, false, [], false⟩,
 ⟨some 27, .move (.tmp 26), none, false, [], false⟩,
 ⟨some 28, .move (.tmp 1), some (some 27, true), false, [], false⟩,
 ⟨some 29, .binOp .neq 2 (.tmp 28) (.const (.int .i64 0)) 2, some (some 27, true), false, [], false⟩,
 ⟨some 30, .pick (.tmp 27) (.tmp 29) (.const (.bool false)), none, false, [], false⟩,
 ⟨some 31, .move (.tmp 30), none, false, [], false⟩,
 ⟨some 32, .move (.tmp 1), some (some 31, true), false, [], false⟩,
 ⟨some 33, .unOp .neg 2 (.tmp 32), some (some 31, true), false, [], false⟩,
 ⟨some 34, .move (.tmp 1), some (some 31, true), false, [], false⟩,
 ⟨some 35, .binOp .eql 2 (.tmp 33) (.tmp 34) 2, some (some 31, true), false, [], false⟩,
 ⟨some 36, .pick (.tmp 31) (.tmp 35) (.const (.bool false)), none, false, [], false⟩,
 ⟨some 24, .assign (.tmp 36), none, false, [], false⟩])
 (.cond (.tmp 24)
 (.seq
 (.reg false [
 ⟨some 6, .assign (.const (.int .i64 0)), none, false, [], false⟩,
 ⟨some 7, .assign (.const (.int .i64 2)), none, false, [], false⟩])
 .ret)
 .skip)))))))))
 (.seq
 (.reg false [
 ⟨some 37, .move (.tmp 1), none, false, [], false⟩,
 ⟨some 38, .move (.tmp 2), none, false, [], false⟩,
 ⟨some 39, .binOp .quo 2 (.tmp 37) (.tmp 38) 2, none, false, [], false⟩,
 ⟨some 6, .assign (.tmp 39), none, false, [], false⟩,
 ⟨some 7, .assign (.const (.int .i64 0)), none, false, [], false⟩])
 .ret)))
noncomputable def fi226 : FI := ⟨c226, 40, [.tmp 6, .tmp 7], .plain⟩
noncomputable def c227 : XC :=
 (.seq
 (.reg false [
 ⟨some 8, .assign (.const (.int .i64 0)), none, false, [], false⟩])
 (.seq
 (.reg false [
 ⟨some 10, .move (.tmp 2), none, false, [], false⟩,
 ⟨some 11, .convert 2 221 (.tmp 10), none, false, [], false⟩,
 ⟨some 12, .move (.tmp 3), none, false, [], false⟩,
 ⟨some 13, .binOp .sub 3 (.tmp 12) (.const (.int .i64 1)) 3, none, false, [], false⟩,
 ⟨some 14, .convert 3 221 (.tmp 13), none, false, [], false⟩,
 ⟨some 15, .binOp .and 221 (.tmp 11) (.tmp 14) 221, none, false, [], false⟩,
 ⟨some 9, .assign (.tmp 15), none, false, [], false⟩])
 (.seq
 (.seq
 (.reg false [
 ⟨some 16, .move (.tmp 0), none, false, [], false⟩])
 (.block 0
 (.seq
 (.reg false [
 ⟨some 18, .binOp .eql 9 (.tmp 16) (.const (.string ⟨#[43]⟩)) 9, none, false, [], false⟩,
 ⟨some 17, .assign (.tmp 18), none, false, [], false⟩])
 (.cond (.tmp 17)
 (.seq
 (.reg false [
 ⟨some 19, .move (.tmp 1), none, false, [], false⟩,
 ⟨some 20, .move (.tmp 2), none, false, [], false⟩,
 ⟨some 21, .binOp .add 2 (.tmp 19) (.tmp 20) 2, none, false, [], false⟩,
 ⟨some 8, .assign (.tmp 21), none, false, [], false⟩])
 .ret)
 (.seq
 (.reg false [
 ⟨some 23, .binOp .eql 9 (.tmp 16) (.const (.string ⟨#[45]⟩)) 9, none, false, [], false⟩,
 ⟨some 22, .assign (.tmp 23), none, false, [], false⟩])
 (.cond (.tmp 22)
 (.seq
 (.reg false [
 ⟨some 24, .move (.tmp 1), none, false, [], false⟩,
 ⟨some 25, .move (.tmp 2), none, false, [], false⟩,
 ⟨some 26, .binOp .sub 2 (.tmp 24) (.tmp 25) 2, none, false, [], false⟩,
 ⟨some 8, .assign (.tmp 26), none, false, [], false⟩])
 .ret)
 (.seq
 (.reg false [
 ⟨some 28, .binOp .eql 9 (.tmp 16) (.const (.string ⟨#[42]⟩)) 9, none, false, [], false⟩,
 ⟨some 27, .assign (.tmp 28), none, false, [], false⟩])
 (.cond (.tmp 27)
 (.seq
 (.reg false [
 ⟨some 29, .move (.tmp 1), none, false, [], false⟩,
 ⟨some 30, .move (.tmp 2), none, false, [], false⟩,
 ⟨some 31, .binOp .mul 2 (.tmp 29) (.tmp 30) 2, none, false, [], false⟩,
 ⟨some 8, .assign (.tmp 31), none, false, [], false⟩])
 .ret)
 (.seq
 (.reg false [
 ⟨some 33, .binOp .eql 9 (.tmp 16) (.const (.string ⟨#[38]⟩)) 9, none, false, [], false⟩,
 ⟨some 32, .assign (.tmp 33), none, false, [], false⟩])
 (.cond (.tmp 32)
 (.seq
 (.reg false [
 ⟨some 34, .move (.tmp 1), none, false, [], false⟩,
 ⟨some 35, .move (.tmp 2), none, false, [], false⟩,
 ⟨some 36, .binOp .and 2 (.tmp 34) (.tmp 35) 2, none, false, [], false⟩,
 ⟨some 8, .assign (.tmp 36), none, false, [], false⟩])
 .ret)
 (.seq
 (.reg false [
 ⟨some 38, .binOp .eql 9 (.tmp 16) (.const (.string ⟨#[124]⟩)) 9, none, false, [], false⟩,
 ⟨some 37, .assign (.tmp 38), none, false, [], false⟩])
 (.cond (.tmp 37)
 (.seq
 (.reg false [
 ⟨some 39, .move (.tmp 1), none, false, [], false⟩,
 ⟨some 40, .move (.tmp 2), none, false, [], false⟩,
 ⟨some 41, .binOp .or 2 (.tmp 39) (.tmp 40) 2, none, false, [], false⟩,
 ⟨some 8, .assign (.tmp 41), none, false, [], false⟩])
 .ret)
 (.seq
 (.reg false [
 ⟨some 43, .binOp .eql 9 (.tmp 16) (.const (.string ⟨#[94]⟩)) 9, none, false, [], false⟩,
 ⟨some 42, .assign (.tmp 43), none, false, [], false⟩])
 (.cond (.tmp 42)
 (.seq
 (.reg false [
 ⟨some 44, .move (.tmp 1), none, false, [], false⟩,
 ⟨some 45, .move (.tmp 2), none, false, [], false⟩,
 ⟨some 46, .binOp .xor 2 (.tmp 44) (.tmp 45) 2, none, false, [], false⟩,
 ⟨some 8, .assign (.tmp 46), none, false, [], false⟩])
 .ret)
 (.seq
 (.reg false [
 ⟨some 48, .binOp .eql 9 (.tmp 16) (.const (.string ⟨#[60, 60]⟩)) 9, none, false, [], false⟩,
 ⟨some 47, .assign (.tmp 48), none, false, [], false⟩])
 (.cond (.tmp 47)
 (.seq
 (.reg false [
 ⟨some 49, .move (.tmp 1), none, false, [], false⟩,
 ⟨some 50, .move (.tmp 9), none, false, [], false⟩,
 ⟨some 51, .binOp .shl 2 (.tmp 49) (.tmp 50) 221, none, false, [], false⟩,
 ⟨some 8, .assign (.tmp 51), none, false, [], false⟩])
 .ret)
 (.seq
 (.reg false [
 ⟨some 53, .binOp .eql 9 (.tmp 16) (.const (.string ⟨#[62, 62]⟩)) 9, none, false, [], false⟩,
 ⟨some 52, .assign (.tmp 53), none, false, [], false⟩])
 (.cond (.tmp 52)
 (.seq
 (.reg false [
 ⟨some 54, .move (.tmp 1), none, false, [], false⟩,
 ⟨some 55, .move (.tmp 9), none, false, [], false⟩,
 ⟨some 56, .binOp .shr 2 (.tmp 54) (.tmp 55) 221, none, false, [], false⟩,
 ⟨some 8, .assign (.tmp 56), none, false, [], false⟩])
 .ret)
 (.seq
 (.reg false [
 ⟨some 58, .binOp .eql 9 (.tmp 16) (.const (.string ⟨#[61, 61]⟩)) 9, none, false, [], false⟩,
 ⟨some 57, .assign (.tmp 58), none, false, [], false⟩])
 (.cond (.tmp 57)
 (.seq
 (.reg false [
 ⟨some 59, .move (.tmp 1), none, false, [], false⟩,
 ⟨some 60, .move (.tmp 2), none, false, [], false⟩,
 ⟨some 61, .binOp .eql 2 (.tmp 59) (.tmp 60) 2, none, false, [], false⟩,
 ⟨some 62, .call ⟨.value (.func 231), #[.tmp 61], #[4]⟩, none, false, [], false⟩,
 ⟨some 8, .assign (.tmp 62), none, false, [], false⟩])
 .ret)
 (.seq
 (.reg false [
 ⟨some 64, .binOp .eql 9 (.tmp 16) (.const (.string ⟨#[33, 61]⟩)) 9, none, false, [], false⟩,
 ⟨some 63, .assign (.tmp 64), none, false, [], false⟩])
 (.cond (.tmp 63)
 (.seq
 (.reg false [
 ⟨some 65, .move (.tmp 1), none, false, [], false⟩,
 ⟨some 66, .move (.tmp 2), none, false, [], false⟩,
 ⟨some 67, .binOp .neq 2 (.tmp 65) (.tmp 66) 2, none, false, [], false⟩,
 ⟨some 68, .call ⟨.value (.func 231), #[.tmp 67], #[4]⟩, none, false, [], false⟩,
 ⟨some 8, .assign (.tmp 68), none, false, [], false⟩])
 .ret)
 (.seq
 (.reg false [
 ⟨some 70, .binOp .eql 9 (.tmp 16) (.const (.string ⟨#[60]⟩)) 9, none, false, [], false⟩,
 ⟨some 69, .assign (.tmp 70), none, false, [], false⟩])
 (.cond (.tmp 69)
 (.seq
 (.reg false [
 ⟨some 71, .move (.tmp 1), none, false, [], false⟩,
 ⟨some 72, .move (.tmp 2), none, false, [], false⟩,
 ⟨some 73, .binOp .lss 2 (.tmp 71) (.tmp 72) 2, none, false, [], false⟩,
 ⟨some 74, .call ⟨.value (.func 231), #[.tmp 73], #[4]⟩, none, false, [], false⟩,
 ⟨some 8, .assign (.tmp 74), none, false, [], false⟩])
 .ret)
 (.seq
 (.reg false [
 ⟨some 76, .binOp .eql 9 (.tmp 16) (.const (.string ⟨#[60, 61]⟩)) 9, none, false, [], false⟩,
 ⟨some 75, .assign (.tmp 76), none, false, [], false⟩])
 (.cond (.tmp 75)
 (.seq
 (.reg false [
 ⟨some 77, .move (.tmp 1), none, false, [], false⟩,
 ⟨some 78, .move (.tmp 2), none, false, [], false⟩,
 ⟨some 79, .binOp .leq 2 (.tmp 77) (.tmp 78) 2, none, false, [], false⟩,
 ⟨some 80, .call ⟨.value (.func 231), #[.tmp 79], #[4]⟩, none, false, [], false⟩,
 ⟨some 8, .assign (.tmp 80), none, false, [], false⟩])
 .ret)
 (.seq
 (.reg false [
 ⟨some 82, .binOp .eql 9 (.tmp 16) (.const (.string ⟨#[62]⟩)) 9, none, false, [], false⟩,
 ⟨some 81, .assign (.tmp 82), none, false, [], false⟩])
 (.cond (.tmp 81)
 (.seq
 (.reg false [
 ⟨some 83, .move (.tmp 1), none, false, [], false⟩,
 ⟨some 84, .move (.tmp 2), none, false, [], false⟩,
 ⟨some 85, .binOp .gtr 2 (.tmp 83) (.tmp 84) 2, none, false, [], false⟩,
 ⟨some 86, .call ⟨.value (.func 231), #[.tmp 85], #[4]⟩, none, false, [], false⟩,
 ⟨some 8, .assign (.tmp 86), none, false, [], false⟩])
 .ret)
 (.seq
 (.reg false [
 ⟨some 88, .binOp .eql 9 (.tmp 16) (.const (.string ⟨#[62, 61]⟩)) 9, none, false, [], false⟩,
 ⟨some 87, .assign (.tmp 88), none, false, [], false⟩])
 (.cond (.tmp 87)
 (.seq
 (.reg false [
 ⟨some 89, .move (.tmp 1), none, false, [], false⟩,
 ⟨some 90, .move (.tmp 2), none, false, [], false⟩,
 ⟨some 91, .binOp .geq 2 (.tmp 89) (.tmp 90) 2, none, false, [], false⟩,
 ⟨some 92, .call ⟨.value (.func 231), #[.tmp 91], #[4]⟩, none, false, [], false⟩,
 ⟨some 8, .assign (.tmp 92), none, false, [], false⟩])
 .ret)
 .skip))))))))))))))))))))))))))))))
 (.seq
 (.reg false [
 ⟨some 8, .assign (.const (.int .i64 0)), none, false, [], false⟩])
 .ret))))
noncomputable def fi227 : FI := ⟨c227, 93, [.tmp 8], .plain⟩
noncomputable def c230 : XC :=
 (.seq
 (.reg false [
 ⟨some 2, .assign (.const (.int .i32 0)), none, false, [], false⟩])
 (.seq
 (.seq
 (.reg false [
 ⟨some 3, .move (.tmp 0), none, false, [], false⟩])
 (.cond (.tmp 3)
 (.seq
 (.reg false [
 ⟨some 2, .assign (.const (.int .i32 1)), none, false, [], false⟩])
 .ret)
 .skip))
 (.seq
 (.reg false [
 ⟨some 2, .assign (.const (.int .i32 0)), none, false, [], false⟩])
 .ret)))
noncomputable def fi230 : FI := ⟨c230, 4, [.tmp 2], .plain⟩
noncomputable def c231 : XC :=
 (.seq
 (.reg false [
 ⟨some 2, .assign (.const (.int .i64 0)), none, false, [], false⟩])
 (.seq
 (.seq
 (.reg false [
 ⟨some 3, .move (.tmp 0), none, false, [], false⟩])
 (.cond (.tmp 3)
 (.seq
 (.reg false [
 ⟨some 2, .assign (.const (.int .i64 1)), none, false, [], false⟩])
 .ret)
 .skip))
 (.seq
 (.reg false [
 ⟨some 2, .assign (.const (.int .i64 0)), none, false, [], false⟩])
 .ret)))
noncomputable def fi231 : FI := ⟨c231, 4, [.tmp 2], .plain⟩
end Go.Proofs.AmEnv
