/- The code of this program's functions, as the abstract machine goes over it. Conditions: none. -/
import Derived.Test.YtbgkdlhkmhpdcaaAmSix
set_option maxRecDepth 100000
namespace Go.Proofs.AmEnv
open Go Go.AM
noncomputable def c3 : XC :=
 (.seq
 (.reg false [
 ⟨some 0, .assign (.const (.bool false)), none, false, [], false⟩])
 (.seq
 (.reg false [
 ⟨some 25, .build 24 #[(0, .const (.int .i64 10)), (2, .const (.int .i64 2))], none, false, [], false⟩,
 ⟨some 1, .alloc 24, none, false, [], false⟩,
 ⟨none, .store 24 (.tmp 1) (.tmp 25), none, false, [], false⟩])
 (.seq
 (.reg false [
 ⟨some 26, .build 24 #[(0, .const (.int .i64 1)), (2, .const (.int .i64 3)), (5, .const (.int .i64 2))], none, false, [], false⟩,
 ⟨some 2, .alloc 24, none, false, [], false⟩,
 ⟨none, .store 24 (.tmp 2) (.tmp 26), none, false, [], false⟩])
 (.seq
 (.reg false [
 ⟨some 28, .load 24 (.tmp 1), none, false, [], false⟩,
 ⟨some 29, .build 24 #[(0, .const (.int .i64 4)), (1, .const (.int .i64 3)), (2, .const (.int .i64 0)), (3, .const (.int .i64 2))], none, false, [], false⟩,
 ⟨some 30, .buildSlice 30 2 #[(0, .tmp 28), (1, .tmp 29)], none, false, [], false⟩,
 ⟨some 31, .call ⟨.value (.func 5), #[.tmp 30], #[30]⟩, none, false, [], false⟩,
 ⟨some 27, .move (.tmp 31), none, false, [], false⟩,
 ⟨some 32, .extract (.tmp 27) 0, none, false, [], false⟩,
 ⟨some 33, .extract (.tmp 27) 1, none, false, [], false⟩,
 ⟨some 3, .alloc 26, none, false, [], false⟩,
 ⟨none, .store 26 (.tmp 3) (.tmp 32), none, false, [], false⟩,
 ⟨some 4, .assign (.tmp 33), none, false, [], false⟩])
 (.seq
 (.reg false [
 ⟨some 35, .load 24 (.tmp 1), none, false, [], false⟩,
 ⟨some 36, .load 24 (.tmp 2), none, false, [], false⟩,
 ⟨some 37, .build 24 #[(0, .const (.int .i64 4)), (1, .const (.int .i64 1)), (2, .const (.int .i64 1)), (3, .const (.int .i64 2))], none, false, [], false⟩,
 ⟨some 38, .build 24 #[(0, .const (.int .i64 6)), (3, .const (.int .i64 3)), (4, .const (.int .i64 1)), (5, .const (.int .i64 1))], none, false, [], false⟩,
 ⟨some 39, .build 24 #[(0, .const (.int .i64 5)), (3, .const (.int .i64 3)), (2, .const (.int .i64 0)), (5, .const (.int .i64 1))], none, false, [], false⟩,
 ⟨some 40, .buildSlice 30 5 #[(0, .tmp 35), (1, .tmp 36), (2, .tmp 37), (3, .tmp 38), (4, .tmp 39)], none, false, [], false⟩,
 ⟨some 41, .call ⟨.value (.func 5), #[.tmp 40], #[30]⟩, none, false, [], false⟩,
 ⟨some 34, .move (.tmp 41), none, false, [], false⟩,
 ⟨some 42, .extract (.tmp 34) 0, none, false, [], false⟩,
 ⟨some 43, .extract (.tmp 34) 1, none, false, [], false⟩,
 ⟨some 5, .alloc 26, none, false, [], false⟩,
 ⟨none, .store 26 (.tmp 5) (.tmp 42), none, false, [], false⟩,
 ⟨some 6, .assign (.tmp 43), none, false, [], false⟩])
 (.seq
 (.reg false [
 ⟨some 45, .load 24 (.tmp 2), none, false, [], false⟩,
 ⟨some 46, .build 24 #[(0, .const (.int .i64 5)), (3, .const (.int .i64 3)), (2, .const (.int .i64 0)), (5, .const (.int .i64 2))], none, false, [], false⟩,
 ⟨some 47, .buildSlice 30 2 #[(0, .tmp 45), (1, .tmp 46)], none, false, [], false⟩,
 ⟨some 48, .call ⟨.value (.func 5), #[.tmp 47], #[30]⟩, none, false, [], false⟩,
 ⟨some 44, .move (.tmp 48), none, false, [], false⟩,
 ⟨some 49, .extract (.tmp 44) 0, none, false, [], false⟩,
 ⟨some 50, .extract (.tmp 44) 1, none, false, [], false⟩,
 ⟨some 7, .alloc 26, none, false, [], false⟩,
 ⟨none, .store 26 (.tmp 7) (.tmp 49), none, false, [], false⟩,
 ⟨some 8, .assign (.tmp 50), none, false, [], false⟩])
 (.seq
 (.reg false [
 ⟨some 52, .build 24 #[(0, .const (.int .i64 3)), (1, .const (.int .i64 1)), (6, .const (.string ⟨#[47]⟩)), (2, .const (.int .i64 0)), (3, .const (.int .i64 0)), (4, .const (.int .i64 1))], none, false, [], false⟩,
 ⟨some 53, .buildSlice 30 1 #[(0, .tmp 52)], none, false, [], false⟩,
 ⟨some 54, .call ⟨.value (.func 5), #[.tmp 53], #[30]⟩, none, false, [], false⟩,
 ⟨some 51, .move (.tmp 54), none, false, [], false⟩,
 ⟨some 55, .extract (.tmp 51) 0, none, false, [], false⟩,
 ⟨some 56, .extract (.tmp 51) 1, none, false, [], false⟩,
 ⟨some 9, .alloc 26, none, false, [], false⟩,
 ⟨none, .store 26 (.tmp 9) (.tmp 55), none, false, [], false⟩,
 ⟨some 10, .assign (.tmp 56), none, false, [], false⟩])
 (.seq
 (.reg false [
 ⟨some 58, .load 24 (.tmp 1), none, false, [], false⟩,
 ⟨some 59, .build 24 #[(0, .const (.int .i64 8)), (3, .const (.int .i64 2))], none, false, [], false⟩,
 ⟨some 60, .build 24 #[(0, .const (.int .i64 7)), (2, .const (.int .i64 3))], none, false, [], false⟩,
 ⟨some 61, .build 24 #[(0, .const (.int .i64 11)), (3, .const (.int .i64 3))], none, false, [], false⟩,
 ⟨some 62, .load 24 (.tmp 1), none, false, [], false⟩,
 ⟨some 63, .build 24 #[(0, .const (.int .i64 11)), (3, .const (.int .i64 2))], none, false, [], false⟩,
 ⟨some 64, .load 24 (.tmp 1), none, false, [], false⟩,
 ⟨some 65, .build 24 #[(0, .const (.int .i64 11)), (3, .const (.int .i64 2))], none, false, [], false⟩,
 ⟨some 66, .build 24 #[(0, .const (.int .i64 3)), (1, .const (.int .i64 2)), (6, .const (.string ⟨#[62]⟩)), (3, .const (.int .i64 3)), (4, .const (.int .i64 2)), (2, .const (.int .i64 0))], none, false, [], false⟩,
 ⟨some 67, .buildSlice 30 9 #[(0, .tmp 58), (1, .tmp 59), (2, .tmp 60), (3, .tmp 61), (4, .tmp 62), (5, .tmp 63), (6, .tmp 64), (7, .tmp 65), (8, .tmp 66)], none, false, [], false⟩,
 ⟨some 68, .call ⟨.value (.func 5), #[.tmp 67], #[30]⟩, none, false, [], false⟩,
 ⟨some 57, .move (.tmp 68), none, false, [], false⟩,
 ⟨some 69, .extract (.tmp 57) 0, none, false, [], false⟩,
 ⟨some 70, .extract (.tmp 57) 1, none, false, [], false⟩,
 ⟨some 11, .alloc 26, none, false, [], false⟩,
 ⟨none, .store 26 (.tmp 11) (.tmp 69), none, false, [], false⟩,
 ⟨some 12, .assign (.tmp 70), none, false, [], false⟩])
 (.seq
 (.seq
 (.reg false [
 ⟨some 71, .fieldAddr 26 (.tmp 3) 2, none, false, [], false⟩,
 ⟨some 72, .load 3 (.tmp 71), none, false, [], false⟩,
 ⟨some 73, .binOp .neq 3 (.tmp 72) (.const (.int .i64 44)) 3, none, false, [], false⟩,
 ⟨some 74, .move (.tmp 73), none, false, [], false⟩,
 ⟨some 75, .fieldAddr 26 (.tmp 5) 2, some (some 74, false), false, [], false⟩,
 ⟨some 76, .load 3 (.tmp 75), some (some 74, false), false, [], false⟩,
 ⟨some 77, .binOp .neq 3 (.tmp 76) (.const (.int .i64 44)) 3, some (some 74, false), false, [], false⟩,
 ⟨some 78, .pick (.tmp 74) (.const (.bool true)) (.tmp 77), none, false, [], false⟩,
 ⟨some 79, .move (.tmp 78), none, false, [], false⟩,
 ⟨some 80, .fieldAddr 26 (.tmp 7) 1, some (some 79, false), false, [], false⟩,
 ⟨some 81, .load 3 (.tmp 80), some (some 79, false), false, [], false⟩,
 ⟨some 82, .binOp .neq 3 (.tmp 81) (.const (.int .i64 2)) 3, some (some 79, false), false, [], false⟩,
 ⟨some 83, .pick (.tmp 79) (.const (.bool true)) (.tmp 82), none, false, [], false⟩,
 ⟨some 84, .move (.tmp 83), none, false, [], false⟩,
 ⟨some 85, .fieldAddr 26 (.tmp 7) 2, some (some 84, false), false, [], false⟩,
 ⟨some 86, .load 3 (.tmp 85), some (some 84, false), false, [], false⟩,
 ⟨some 87, .binOp .neq 3 (.tmp 86) (.const (.int .i64 3)) 3, some (some 84, false), false, [], false⟩,
 ⟨some 88, .pick (.tmp 84) (.const (.bool true)) (.tmp 87), none, false, [], false⟩,
 ⟨some 89, .move (.tmp 88), none, false, [], false⟩,
 ⟨some 90, .fieldAddr 26 (.tmp 9) 2, some (some 89, false), false, [], false⟩,
 ⟨some 91, .load 3 (.tmp 90), some (some 89, false), false, [], false⟩,
 ⟨some 92, .binOp .neq 3 (.tmp 91) (.const (.int .i64 1)) 3, some (some 89, false), false, [], false⟩,
 ⟨some 93, .pick (.tmp 89) (.const (.bool true)) (.tmp 92), none, false, [], false⟩,
 ⟨some 94, .move (.tmp 93), none, false, [], false⟩,
 ⟨some 95, .fieldAddr 26 (.tmp 11) 0, some (some 94, false), false, [], false⟩,
 ⟨some 96, .load 22 (.tmp 95), some (some 94, false), false, [], false⟩,
 ⟨some 97, .buildSlice 22 3 #[(0, .const (.int .i64 300)), (1, .const (.int .i64 (-7))), (2, .const (.int .i64 0))], some (some 94, false), false, [], false⟩,
 ⟨some 98, .call ⟨.value (.func 6), #[.tmp 96, .tmp 97], #[22, 22]⟩, some (some 94, false), false, [], false⟩,
 ⟨some 99, .unOp .not 4 (.tmp 98), some (some 94, false), false, [], false⟩,
 ⟨some 100, .pick (.tmp 94) (.const (.bool true)) (.tmp 99), none, false, [], false⟩,
 ⟨some 101, .move (.tmp 100), none, false, [], false⟩,
 ⟨some 102, .fieldAddr 26 (.tmp 11) 2, some (some 101, false), false, [], false⟩,
 ⟨some 103, .load 3 (.tmp 102), some (some 101, false), false, [], false⟩,
 ⟨some 104, .binOp .neq 3 (.tmp 103) (.const (.int .i64 1)) 3, some (some 101, false), false, [], false⟩,
 ⟨some 105, .pick (.tmp 101) (.const (.bool true)) (.tmp 104), none, false, [], false⟩])
 (.cond (.tmp 105)
 (.seq
 (.reg false [
 ⟨some 0, .assign (.const (.bool false)), none, false, [], false⟩])
 .ret)
 .skip))
 (.seq
 (.reg false [
 ⟨some 106, .build 24 #[], none, false, [], false⟩,
 ⟨some 107, .build 24 #[(0, .const (.int .i64 12))], none, false, [], false⟩,
 ⟨some 108, .build 24 #[(0, .const (.int .i64 3)), (1, .const (.int .i64 1)), (6, .const (.string ⟨#[38, 38]⟩))], none, false, [], false⟩,
 ⟨some 109, .build 24 #[(0, .const (.int .i64 4))], none, false, [], false⟩,
 ⟨some 110, .build 24 #[(0, .const (.int .i64 1)), (2, .const (.int .i64 4))], none, false, [], false⟩,
 ⟨some 111, .build 24 #[(0, .const (.int .i64 1)), (2, .const (.int .i64 (-1)))], none, false, [], false⟩,
 ⟨some 112, .build 24 #[(0, .const (.int .i64 1)), (5, .const (.int .i64 2147483648))], none, false, [], false⟩,
 ⟨some 113, .build 24 #[(0, .const (.int .i64 7)), (5, .const (.int .i64 1)), (2, .const (.int .i64 2))], none, false, [], false⟩,
 ⟨some 114, .build 24 #[(0, .const (.int .i64 5)), (5, .const (.int .i64 0)), (3, .const (.int .i64 2))], none, false, [], false⟩,
 ⟨some 115, .build 24 #[(0, .const (.int .i64 9)), (5, .const (.int .i64 1))], none, false, [], false⟩,
 ⟨some 116, .buildSlice 22 1 #[(0, .const (.int .i64 0))], none, false, [], false⟩,
 ⟨some 117, .build 24 #[(0, .const (.int .i64 9)), (7, .tmp 116)], none, false, [], false⟩,
 ⟨some 118, .build 24 #[(0, .const (.int .i64 2)), (2, .const (.int .i64 0)), (3, .const (.int .i64 2))], none, false, [], false⟩,
 ⟨some 119, .build 24 #[(0, .const (.int .i64 11)), (3, .const (.int .i64 0))], none, false, [], false⟩,
 ⟨some 120, .build 24 #[(0, .const (.int .i64 3)), (1, .const (.int .i64 2)), (6, .const (.string ⟨#[60]⟩)), (3, .const (.int .i64 2)), (4, .const (.int .i64 3)), (2, .const (.int .i64 2))], none, false, [], false⟩,
 ⟨some 121, .build 24 #[(0, .const (.int .i64 3)), (1, .const (.int .i64 1)), (6, .const (.string ⟨#[32]⟩)), (3, .const (.int .i64 0))], none, false, [], false⟩,
 ⟨some 122, .buildSlice 30 15 #[(0, .tmp 106), (1, .tmp 107), (2, .tmp 108), (3, .tmp 109), (4, .tmp 110), (5, .tmp 111), (6, .tmp 112), (7, .tmp 113), (8, .tmp 114), (9, .tmp 115), (10, .tmp 117), (11, .tmp 118), (12, .tmp 119), (13, .tmp 120), (14, .tmp 121)], none, false, [], false⟩,
 ⟨some 13, .assign (.tmp 122), none, false, [], false⟩])
 (.seq
 (.reg false [
 ⟨some 123, .buildSlice 22 15 #[(0, .const (.int .i64 2)), (1, .const (.int .i64 2)), (2, .const (.int .i64 2)), (3, .const (.int .i64 2)), (4, .const (.int .i64 11)), (5, .const (.int .i64 11)), (6, .const (.int .i64 11)), (7, .const (.int .i64 11)), (8, .const (.int .i64 11)), (9, .const (.int .i64 11)), (10, .const (.int .i64 7)), (11, .const (.int .i64 6)), (12, .const (.int .i64 6)), (13, .const (.int .i64 6)), (14, .const (.int .i64 2))], none, false, [], false⟩,
 ⟨some 14, .assign (.tmp 123), none, false, [], false⟩])
 (.seq
 (.seq
 (.reg false [
 ⟨some 15, .assign (.const (.int .i64 0)), none, false, [], false⟩])
 (.block 0
 (.loop
 (.seq
 (.seq
 (.reg false [
 ⟨some 124, .move (.tmp 15), none, false, [], false⟩,
 ⟨some 125, .move (.tmp 13), none, false, [], false⟩,
 ⟨some 126, .call ⟨.builtin .len, #[.tmp 125], #[30]⟩, none, false, [], false⟩,
 ⟨some 127, .binOp .lss 3 (.tmp 124) (.tmp 126) 3, none, false, [], false⟩])
 (.cond (.tmp 127)
 .skip
 (.exit 0)))
 (.seq
 (.block 1
 (.seq
 (.reg false [
 ⟨some 131, .move (.tmp 13), none, false, [], false⟩,
 ⟨some 132, .move (.tmp 15), none, false, [], false⟩,
 ⟨some 133, .indexAddr 30 (.tmp 131) (.tmp 132), none, false, [], false⟩,
 ⟨some 134, .load 24 (.tmp 133), none, false, [], false⟩,
 ⟨some 135, .buildSlice 30 1 #[(0, .tmp 134)], none, false, [], false⟩,
 ⟨some 136, .call ⟨.value (.func 5), #[.tmp 135], #[30]⟩, none, false, [], false⟩,
 ⟨some 130, .move (.tmp 136), none, false, [], false⟩,
 ⟨some 137, .extract (.tmp 130) 0, none, false, [], false⟩,
 ⟨some 138, .extract (.tmp 130) 1, none, false, [], false⟩,
 ⟨some 16, .alloc 26, none, false, [], false⟩,
 ⟨none, .store 26 (.tmp 16) (.tmp 137), none, false, [], false⟩,
 ⟨some 17, .assign (.tmp 138), none, false, [], false⟩])
 (.seq
 (.reg false [
 ⟨some 139, .move (.tmp 17), none, false, [], false⟩,
 ⟨some 140, .move (.tmp 14), none, false, [], false⟩,
 ⟨some 141, .move (.tmp 15), none, false, [], false⟩,
 ⟨some 142, .indexAddr 22 (.tmp 140) (.tmp 141), none, false, [], false⟩,
 ⟨some 143, .load 3 (.tmp 142), none, false, [], false⟩,
 ⟨some 144, .binOp .neq 3 (.tmp 139) (.tmp 143) 3, none, false, [], false⟩])
 (.cond (.tmp 144)
 (.seq
 (.reg false [
 ⟨some 0, .assign (.const (.bool false)), none, false, [], false⟩])
 .ret)
 .skip))))
 (.reg false [
 ⟨some 128, .move (.tmp 15), none, false, [], false⟩,
 ⟨some 129, .binOp .add 3 (.tmp 128) (.const (.int .i64 1)) 3, none, false, [], false⟩,
 ⟨some 15, .assign (.tmp 129), none, false, [], false⟩]))))))
 (.seq
 (.reg false [
 ⟨some 145, .buildSlice 22 1 #[(0, .const (.int .i64 1))], none, false, [], false⟩,
 ⟨some 146, .build 24 #[(0, .const (.int .i64 9)), (5, .const (.int .i64 0)), (2, .const (.int .i64 (-1)))], none, false, [], false⟩,
 ⟨some 147, .buildSlice 30 1 #[(0, .tmp 146)], none, false, [], false⟩,
 ⟨some 148, .build 38 #[(0, .const (.int .i64 3))], none, false, [], false⟩,
 ⟨some 149, .build 40 #[(0, .tmp 147), (1, .tmp 148)], none, false, [], false⟩,
 ⟨some 150, .buildSlice 41 1 #[(0, .tmp 149)], none, false, [], false⟩,
 ⟨some 151, .call ⟨.value (.func 7), #[.tmp 145, .tmp 150], #[22, 41]⟩, none, false, [], false⟩,
 ⟨some 18, .alloc 35, none, false, [], false⟩,
 ⟨none, .store 35 (.tmp 18) (.tmp 151), none, false, [], false⟩])
 (.seq
 (.reg false [
 ⟨some 152, .load 35 (.tmp 18), none, false, [], false⟩,
 ⟨some 153, .call ⟨.value (.func 8), #[.tmp 152, .const (.slice none 0 0), .const (.int .i64 1000)], #[35, 22, 3]⟩, none, false, [], false⟩,
 ⟨some 19, .alloc 26, none, false, [], false⟩,
 ⟨none, .store 26 (.tmp 19) (.tmp 153), none, false, [], false⟩])
 (.seq
 (.reg false [
 ⟨some 154, .buildSlice 22 1 #[(0, .const (.int .i64 1))], none, false, [], false⟩,
 ⟨some 155, .build 38 #[(0, .const (.int .i64 1))], none, false, [], false⟩,
 ⟨some 156, .build 40 #[(1, .tmp 155)], none, false, [], false⟩,
 ⟨some 157, .buildSlice 41 1 #[(0, .tmp 156)], none, false, [], false⟩,
 ⟨some 158, .call ⟨.value (.func 7), #[.tmp 154, .tmp 157], #[22, 41]⟩, none, false, [], false⟩,
 ⟨some 20, .alloc 35, none, false, [], false⟩,
 ⟨none, .store 35 (.tmp 20) (.tmp 158), none, false, [], false⟩])
 (.seq
 (.reg false [
 ⟨some 159, .load 35 (.tmp 20), none, false, [], false⟩,
 ⟨some 160, .call ⟨.value (.func 8), #[.tmp 159, .const (.slice none 0 0), .const (.int .i64 1000)], #[35, 22, 3]⟩, none, false, [], false⟩,
 ⟨some 21, .alloc 26, none, false, [], false⟩,
 ⟨none, .store 26 (.tmp 21) (.tmp 160), none, false, [], false⟩])
 (.seq
 (.reg false [
 ⟨some 161, .build 44 #[(1, .const (.int .i64 3))], none, false, [], false⟩,
 ⟨some 162, .build 44 #[(1, .const (.int .i64 0)), (2, .const (.int .i64 2))], none, false, [], false⟩,
 ⟨some 163, .build 44 #[(1, .const (.int .i64 4)), (2, .const (.int .i64 1))], none, false, [], false⟩,
 ⟨some 164, .build 44 #[], none, false, [], false⟩,
 ⟨some 165, .buildSlice 32 4 #[(0, .tmp 161), (1, .tmp 162), (2, .tmp 163), (3, .tmp 164)], none, false, [], false⟩,
 ⟨some 22, .assign (.tmp 165), none, false, [], false⟩])
 (.seq
 (.seq
 (.reg false [
 ⟨some 23, .assign (.const (.int .i64 0)), none, false, [], false⟩])
 (.block 2
 (.loop
 (.seq
 (.seq
 (.reg false [
 ⟨some 166, .move (.tmp 23), none, false, [], false⟩,
 ⟨some 167, .move (.tmp 22), none, false, [], false⟩,
 ⟨some 168, .call ⟨.builtin .len, #[.tmp 167], #[32]⟩, none, false, [], false⟩,
 ⟨some 169, .binOp .lss 3 (.tmp 166) (.tmp 168) 3, none, false, [], false⟩])
 (.cond (.tmp 169)
 .skip
 (.exit 2)))
 (.seq
 (.block 3
 (.seq
 (.reg false [
 ⟨some 172, .call ⟨.value (.func 9), #[], #[]⟩, none, false, [], false⟩,
 ⟨some 24, .alloc 35, none, false, [], false⟩,
 ⟨none, .store 35 (.tmp 24) (.tmp 172), none, false, [], false⟩])
 (.seq
 (.reg false [
 ⟨some 173, .move (.tmp 22), none, false, [], false⟩,
 ⟨some 174, .move (.tmp 23), none, false, [], false⟩,
 ⟨some 175, .move (.tmp 23), none, false, [], false⟩,
 ⟨some 176, .binOp .add 3 (.tmp 175) (.const (.int .i64 1)) 3, none, false, [], false⟩,
 ⟨some 177, .slice 32 (.tmp 173) (some (.tmp 174)) (some (.tmp 176)) none, none, false, [], false⟩,
 ⟨some 178, .fieldAddr 35 (.tmp 24) 0, none, false, [], false⟩,
 ⟨none, .store 32 (.tmp 178) (.tmp 177), none, false, [], false⟩])
 (.seq
 (.reg false [
 ⟨some 179, .load 35 (.tmp 24), none, false, [], false⟩,
 ⟨some 180, .call ⟨.value (.func 10), #[.tmp 179], #[35]⟩, none, false, [], false⟩,
 ⟨some 181, .binOp .neq 27 (.tmp 180) (.const (.int .i64 6)) 27, none, false, [], false⟩])
 (.cond (.tmp 181)
 (.seq
 (.reg false [
 ⟨some 0, .assign (.const (.bool false)), none, false, [], false⟩])
 .ret)
 .skip)))))
 (.reg false [
 ⟨some 170, .move (.tmp 23), none, false, [], false⟩,
 ⟨some 171, .binOp .add 3 (.tmp 170) (.const (.int .i64 1)) 3, none, false, [], false⟩,
 ⟨some 23, .assign (.tmp 171), none, false, [], false⟩]))))))
 (.seq
 (.reg false [
 ⟨some 182, .load 35 (.tmp 18), none, false, [], false⟩,
 ⟨some 183, .call ⟨.value (.func 10), #[.tmp 182], #[35]⟩, none, false, [], false⟩,
 ⟨some 184, .binOp .eql 27 (.tmp 183) (.const (.int .i64 0)) 27, none, false, [], false⟩,
 ⟨some 185, .move (.tmp 184), none, false, [], false⟩,
 ⟨some 186, .fieldAddr 26 (.tmp 19) 1, some (some 185, true), false, [], false⟩,
 ⟨some 187, .load 3 (.tmp 186), some (some 185, true), false, [], false⟩,
 ⟨some 188, .binOp .eql 3 (.tmp 187) (.const (.int .i64 2)) 3, some (some 185, true), false, [], false⟩,
 ⟨some 189, .pick (.tmp 185) (.tmp 188) (.const (.bool false)), none, false, [], false⟩,
 ⟨some 190, .move (.tmp 189), none, false, [], false⟩,
 ⟨some 191, .fieldAddr 26 (.tmp 19) 2, some (some 190, true), false, [], false⟩,
 ⟨some 192, .load 3 (.tmp 191), some (some 190, true), false, [], false⟩,
 ⟨some 193, .binOp .eql 3 (.tmp 192) (.const (.int .i64 4)) 3, some (some 190, true), false, [], false⟩,
 ⟨some 194, .pick (.tmp 190) (.tmp 193) (.const (.bool false)), none, false, [], false⟩,
 ⟨some 195, .move (.tmp 194), none, false, [], false⟩,
 ⟨some 196, .fieldAddr 26 (.tmp 21) 1, some (some 195, true), false, [], false⟩,
 ⟨some 197, .load 3 (.tmp 196), some (some 195, true), false, [], false⟩,
 ⟨some 198, .binOp .eql 3 (.tmp 197) (.const (.int .i64 3)) 3, some (some 195, true), false, [], false⟩,
 ⟨some 199, .pick (.tmp 195) (.tmp 198) (.const (.bool false)), none, false, [], false⟩,
 ⟨some 200, .move (.tmp 199), none, false, [], false⟩,
 ⟨some 201, .build 35 #[], some (some 200, true), false, [], false⟩,
 ⟨some 202, .call ⟨.value (.func 10), #[.tmp 201], #[35]⟩, some (some 200, true), false, [], false⟩,
 ⟨some 203, .binOp .eql 27 (.tmp 202) (.const (.int .i64 12)) 27, some (some 200, true), false, [], false⟩,
 ⟨some 204, .pick (.tmp 200) (.tmp 203) (.const (.bool false)), none, false, [], false⟩,
 ⟨some 205, .move (.tmp 204), none, false, [], false⟩,
 ⟨some 206, .call ⟨.value (.func 7), #[.const (.slice none 0 0), .const (.slice none 0 0)], #[22, 41]⟩, some (some 205, true), false, [], false⟩,
 ⟨some 207, .call ⟨.value (.func 10), #[.tmp 206], #[35]⟩, some (some 205, true), false, [], false⟩,
 ⟨some 208, .binOp .eql 27 (.tmp 207) (.const (.int .i64 9)) 27, some (some 205, true), false, [], false⟩,
 ⟨some 209, .pick (.tmp 205) (.tmp 208) (.const (.bool false)), none, false, [], false⟩,
 ⟨some 210, .move (.tmp 209), none, false, [], false⟩,
 ⟨some 211, .buildSlice 22 1 #[(0, .const (.int .i64 3))], some (some 210, true), false, [], false⟩,
 ⟨some 212, .call ⟨.value (.func 9), #[], #[]⟩, some (some 210, true), false, [], false⟩,
 ⟨some 213, .field 35 (.tmp 212) 1, some (some 210, true), false, [], false⟩,
 ⟨some 214, .indexAddr 33 (.tmp 213) (.const (.int .i64 0)), some (some 210, true), false, [], false⟩,
 ⟨some 215, .fieldAddr 48 (.tmp 214) 4, some (some 210, true), false, [], false⟩,
 ⟨some 216, .load 41 (.tmp 215), some (some 210, true), false, [], false⟩,
 ⟨some 217, .call ⟨.value (.func 7), #[.tmp 211, .tmp 216], #[22, 41]⟩, some (some 210, true), false, [], false⟩,
 ⟨some 218, .call ⟨.value (.func 10), #[.tmp 217], #[35]⟩, some (some 210, true), false, [], false⟩,
 ⟨some 219, .binOp .eql 27 (.tmp 218) (.const (.int .i64 6)) 27, some (some 210, true), false, [], false⟩,
 ⟨some 220, .pick (.tmp 210) (.tmp 219) (.const (.bool false)), none, false, [], false⟩,
 ⟨some 221, .move (.tmp 220), none, false, [], false⟩,
 ⟨some 222, .buildSlice 22 1 #[(0, .const (.int .i64 1))], some (some 221, true), false, [], false⟩,
 ⟨some 223, .build 38 #[(0, .const (.int .i64 1)), (2, .const (.int .i64 1))], some (some 221, true), false, [], false⟩,
 ⟨some 224, .build 40 #[(1, .tmp 223)], some (some 221, true), false, [], false⟩,
 ⟨some 225, .buildSlice 41 1 #[(0, .tmp 224)], some (some 221, true), false, [], false⟩,
 ⟨some 226, .call ⟨.value (.func 7), #[.tmp 222, .tmp 225], #[22, 41]⟩, some (some 221, true), false, [], false⟩,
 ⟨some 227, .call ⟨.value (.func 10), #[.tmp 226], #[35]⟩, some (some 221, true), false, [], false⟩,
 ⟨some 228, .binOp .eql 27 (.tmp 227) (.const (.int .i64 11)) 27, some (some 221, true), false, [], false⟩,
 ⟨some 229, .pick (.tmp 221) (.tmp 228) (.const (.bool false)), none, false, [], false⟩,
 ⟨some 230, .move (.tmp 229), none, false, [], false⟩,
 ⟨some 231, .buildSlice 22 1 #[(0, .const (.int .i64 2))], some (some 230, true), false, [], false⟩,
 ⟨some 232, .build 38 #[(0, .const (.int .i64 3))], some (some 230, true), false, [], false⟩,
 ⟨some 233, .build 40 #[(1, .tmp 232)], some (some 230, true), false, [], false⟩,
 ⟨some 234, .buildSlice 41 1 #[(0, .tmp 233)], some (some 230, true), false, [], false⟩,
 ⟨some 235, .call ⟨.value (.func 7), #[.tmp 231, .tmp 234], #[22, 41]⟩, some (some 230, true), false, [], false⟩,
 ⟨some 236, .call ⟨.value (.func 10), #[.tmp 235], #[35]⟩, some (some 230, true), false, [], false⟩,
 ⟨some 237, .binOp .eql 27 (.tmp 236) (.const (.int .i64 6)) 27, some (some 230, true), false, [], false⟩,
 ⟨some 238, .pick (.tmp 230) (.tmp 237) (.const (.bool false)), none, false, [], false⟩,
 ⟨some 239, .move (.tmp 238), none, false, [], false⟩,
 ⟨some 240, .call ⟨.value (.func 11), #[], #[]⟩, some (some 239, true), false, [], false⟩,
 ⟨some 241, .pick (.tmp 239) (.tmp 240) (.const (.bool false)), none, false, [], false⟩,
 ⟨some 0, .assign (.tmp 241), none, false, [], false⟩])
 .ret)))))))))))))))))))
noncomputable def fi3 : FI := ⟨c3, 242, [.tmp 0], .plain⟩
noncomputable def c5 : XC :=
 (.seq
 (.reg false [
 ⟨some 2, .alloc 26, none, false, [], false⟩,
 ⟨some 3, .assign (.const (.int .i64 0)), none, false, [], false⟩])
 (.seq
 (.reg false [
 ⟨some 6, .buildSlice 22 4 #[(0, .const (.int .i64 1)), (1, .const (.int .i64 1)), (2, .const (.int .i64 2)), (3, .const (.int .i64 2))], none, false, [], false⟩,
 ⟨some 7, .move (.tmp 0), none, false, [], false⟩,
 ⟨some 8, .build 38 #[(0, .const (.int .i64 3))], none, false, [], false⟩,
 ⟨some 9, .build 40 #[(0, .tmp 7), (1, .tmp 8)], none, false, [], false⟩,
 ⟨some 10, .buildSlice 41 1 #[(0, .tmp 9)], none, false, [], false⟩,
 ⟨some 11, .call ⟨.value (.func 7), #[.tmp 6, .tmp 10], #[22, 41]⟩, none, false, [], false⟩,
 ⟨some 4, .alloc 35, none, false, [], false⟩,
 ⟨none, .store 35 (.tmp 4) (.tmp 11), none, false, [], false⟩])
 (.seq
 (.reg false [
 ⟨some 12, .build 44 #[(0, .const (.string ⟨#[103]⟩)), (1, .const (.int .i64 2))], none, false, [], false⟩,
 ⟨some 13, .build 44 #[(0, .const (.string ⟨#[99]⟩)), (1, .const (.int .i64 3)), (2, .const (.int .i64 3))], none, false, [], false⟩,
 ⟨some 14, .build 44 #[(0, .const (.string ⟨#[105]⟩)), (1, .const (.int .i64 1)), (2, .const (.int .i64 2))], none, false, [], false⟩,
 ⟨some 15, .buildSlice 32 3 #[(0, .tmp 12), (1, .tmp 13), (2, .tmp 14)], none, false, [], false⟩,
 ⟨some 16, .fieldAddr 35 (.tmp 4) 0, none, false, [], false⟩,
 ⟨none, .store 32 (.tmp 16) (.tmp 15), none, false, [], false⟩])
 (.seq
 (.reg false [
 ⟨some 17, .load 35 (.tmp 4), none, false, [], false⟩,
 ⟨some 18, .call ⟨.value (.func 10), #[.tmp 17], #[35]⟩, none, false, [], false⟩,
 ⟨some 5, .assign (.tmp 18), none, false, [], false⟩])
 (.seq
 (.seq
 (.reg false [
 ⟨some 19, .move (.tmp 5), none, false, [], false⟩,
 ⟨some 20, .binOp .neq 27 (.tmp 19) (.const (.int .i64 0)) 27, none, false, [], false⟩])
 (.cond (.tmp 20)
 (.seq
 (.reg false [
 ⟨some 21, .build 26 #[], none, false, [], false⟩,
 ⟨some 22, .move (.tmp 5), none, false, [], false⟩,
 ⟨none, .store 26 (.tmp 2) (.tmp 21), none, false, [], false⟩,
 ⟨some 3, .assign (.tmp 22), none, false, [], false⟩])
 .ret)
 .skip))
 (.seq
 (.reg false [
 ⟨some 23, .load 35 (.tmp 4), none, false, [], false⟩,
 ⟨some 24, .buildSlice 22 2 #[(0, .const (.int .i64 300)), (1, .const (.int .i64 (-7)))], none, false, [], false⟩,
 ⟨some 25, .call ⟨.value (.func 8), #[.tmp 23, .tmp 24, .const (.int .i64 100)], #[35, 22, 3]⟩, none, false, [], false⟩,
 ⟨some 26, .move (.tmp 5), none, false, [], false⟩,
 ⟨none, .store 26 (.tmp 2) (.tmp 25), none, false, [], false⟩,
 ⟨some 3, .assign (.tmp 26), none, false, [], false⟩])
 .ret))))))
noncomputable def fi5 : FI := ⟨c5, 27, [.cell 2 26, .tmp 3], .plain⟩
noncomputable def c6 : XC :=
 (.seq
 (.reg false [
 ⟨some 4, .assign (.const (.bool false)), none, false, [], false⟩])
 (.seq
 (.seq
 (.reg false [
 ⟨some 6, .move (.tmp 0), none, false, [], false⟩,
 ⟨some 7, .call ⟨.builtin .len, #[.tmp 6], #[22]⟩, none, false, [], false⟩,
 ⟨some 8, .move (.tmp 1), none, false, [], false⟩,
 ⟨some 9, .call ⟨.builtin .len, #[.tmp 8], #[22]⟩, none, false, [], false⟩,
 ⟨some 10, .binOp .neq 3 (.tmp 7) (.tmp 9) 3, none, false, [], false⟩])
 (.cond (.tmp 10)
 (.seq
 (.reg false [
 ⟨some 4, .assign (.const (.bool false)), none, false, [], false⟩])
 .ret)
 .skip))
 (.seq
 (.seq
 (.reg false [
 ⟨some 5, .assign (.const (.int .i64 0)), none, false, [], false⟩])
 (.block 0
 (.loop
 (.seq
 (.seq
 (.reg false [
 ⟨some 11, .move (.tmp 5), none, false, [], false⟩,
 ⟨some 12, .move (.tmp 0), none, false, [], false⟩,
 ⟨some 13, .call ⟨.builtin .len, #[.tmp 12], #[22]⟩, none, false, [], false⟩,
 ⟨some 14, .binOp .lss 3 (.tmp 11) (.tmp 13) 3, none, false, [], false⟩])
 (.cond (.tmp 14)
 .skip
 (.exit 0)))
 (.seq
 (.block 1
 (.seq
 (.reg true [
 ⟨some 17, .move (.tmp 0), none, false, [], false⟩,
 ⟨some 18, .move (.tmp 5), none, false, [], false⟩,
 ⟨some 19, .indexAddr 22 (.tmp 17) (.tmp 18), none, false, [], false⟩,
 ⟨some 20, .load 3 (.tmp 19), none, false, [], false⟩,
 ⟨some 21, .move (.tmp 1), none, false, [], false⟩,
 ⟨some 22, .move (.tmp 5), none, false, [], false⟩,
 ⟨some 23, .indexAddr 22 (.tmp 21) (.tmp 22), none, false, [], false⟩,
 ⟨some 24, .load 3 (.tmp 23), none, false, [], false⟩,
 ⟨some 25, .binOp .eql 3 (.tmp 20) (.tmp 24) 3, none, false, [], false⟩,
 ⟨some 26, .unOp .not 4 (.tmp 25), none, false, [], false⟩])
 (.cond (.tmp 26)
 (.seq
 (.reg false [
 ⟨some 4, .assign (.const (.bool false)), none, false, [], false⟩])
 .ret)
 .skip)))
 (.reg false [
 ⟨some 15, .move (.tmp 5), none, false, [], false⟩,
 ⟨some 16, .binOp .add 3 (.tmp 15) (.const (.int .i64 1)) 3, none, false, [], false⟩,
 ⟨some 5, .assign (.tmp 16), none, false, [], false⟩]))))))
 (.seq
 (.reg false [
 ⟨some 4, .assign (.const (.bool true)), none, false, [], false⟩])
 .ret))))
noncomputable def fi6 : FI := ⟨c6, 27, [.tmp 4], .plain⟩
noncomputable def c7 : XC :=
 (.seq
 (.reg false [
 ⟨some 4, .alloc 35, none, false, [], false⟩])
 (.seq
 (.reg false [
 ⟨some 5, .move (.tmp 0), none, false, [], false⟩,
 ⟨some 6, .move (.tmp 1), none, false, [], false⟩,
 ⟨some 7, .build 48 #[(0, .const (.string ⟨#[109, 97, 105, 110]⟩)), (1, .const (.int .i64 1)), (3, .tmp 5), (4, .tmp 6)], none, false, [], false⟩,
 ⟨some 8, .buildSlice 33 1 #[(0, .tmp 7)], none, false, [], false⟩,
 ⟨some 9, .build 35 #[(1, .tmp 8)], none, false, [], false⟩,
 ⟨none, .store 35 (.tmp 4) (.tmp 9), none, false, [], false⟩])
 .ret))
noncomputable def fi7 : FI := ⟨c7, 10, [.cell 4 35], .plain⟩
noncomputable def c8 : XC :=
 (.seq
 (.reg false [
 ⟨some 3, .box 35 (.tmp 0), none, false, [], false⟩,
 ⟨some 6, .alloc 26, none, false, [], false⟩])
 (.seq
 (.reg false [
 ⟨some 11, .load 35 (.tmp 3), none, false, [], false⟩,
 ⟨some 12, .move (.tmp 1), none, false, [], false⟩,
 ⟨some 13, .move (.tmp 2), none, false, [], false⟩,
 ⟨some 14, .build 58 #[(0, .tmp 11), (1, .tmp 12), (2, .tmp 13)], none, false, [], false⟩,
 ⟨some 15, .box 58 (.tmp 14), none, false, [], false⟩,
 ⟨some 7, .alloc 55, none, false, [], false⟩,
 ⟨none, .store 55 (.tmp 7) (.tmp 15), none, false, [], false⟩])
 (.seq
 (.seq
 (.reg false [
 ⟨some 16, .fieldAddr 35 (.tmp 3) 0, none, false, [], false⟩,
 ⟨some 17, .load 32 (.tmp 16), none, false, [], false⟩,
 ⟨some 18, .call ⟨.builtin .len, #[.tmp 17], #[32]⟩, none, false, [], false⟩,
 ⟨some 19, .move (.const (.int .i64 0)), none, false, [], false⟩])
 (.block 0
 (.loop
 (.seq
 (.reg false [
 ⟨some 20, .binOp .lss 3 (.tmp 19) (.tmp 18) 3, none, false, [], false⟩])
 (.seq
 (.cond (.tmp 20)
 .skip
 (.exit 0))
 (.seq
 (.block 1
 (.seq
 (.reg false [
 ⟨some 21, .indexAddr 32 (.tmp 17) (.tmp 19), none, false, [], false⟩,
 ⟨some 22, .load 44 (.tmp 21), none, false, [], false⟩,
 ⟨some 9, .alloc 44, none, false, [], false⟩,
 ⟨none, .store 44 (.tmp 9) (.tmp 22), none, false, [], false⟩])
 (.reg true [
 ⟨some 28, .fieldAddr 44 (.tmp 9) 2, none, false, [], false⟩,
 ⟨some 29, .load 3 (.tmp 28), none, false, [], false⟩,
 ⟨some 30, .call ⟨.builtin .max, #[.tmp 29, .const (.int .i64 1)], #[3, 3]⟩, none, false, [], false⟩,
 ⟨some 31, .makeSlice 22 (.tmp 30) (.tmp 30), none, false, [], false⟩,
 ⟨some 32, .buildSlice 56 1 #[(0, .tmp 31)], none, false, [], false⟩,
 ⟨some 24, .load 55 (.tmp 7), none, false, [], false⟩,
 ⟨some 25, .nilCheck (.tmp 24), none, false, [], false⟩,
 ⟨some 26, .fieldAddr 58 (.tmp 25) 3, none, false, [], false⟩,
 ⟨some 27, .load 56 (.tmp 26), none, false, [], false⟩,
 ⟨some 33, .call ⟨.builtin .append, #[.tmp 27, .tmp 32], #[56, 56]⟩, none, true, [false, true, true, true], false⟩,
 ⟨some 23, .load 55 (.tmp 7), none, false, [], true⟩,
 ⟨some 34, .nilCheck (.tmp 23), none, false, [], false⟩,
 ⟨some 35, .fieldAddr 58 (.tmp 34) 3, none, false, [], false⟩,
 ⟨none, .store 56 (.tmp 35) (.tmp 33), none, false, [], false⟩])))
 (.reg false [
 ⟨some 36, .binOp .add 3 (.tmp 19) (.const (.int .i64 1)) 3, none, false, [], false⟩,
 ⟨some 19, .move (.tmp 36), none, false, [], false⟩])))))))
 (.seq
 .bad
 (.seq
 (.reg true [
 ⟨some 39, .load 35 (.tmp 3), none, false, [], false⟩,
 ⟨some 40, .call ⟨.value (.func 20), #[.tmp 39], #[35]⟩, none, true, [false, true, true], false⟩,
 ⟨some 38, .load 55 (.tmp 7), none, false, [], true⟩,
 ⟨some 41, .call ⟨.value (.func 19), #[.tmp 38, .tmp 40, .const (.slice none 0 0)], #[55, 3, 22]⟩, none, false, [true], false⟩,
 ⟨some 10, .assign (.tmp 41), none, false, [], false⟩])
 (.seq
 (.reg false [
 ⟨some 42, .load 55 (.tmp 7), none, false, [], false⟩,
 ⟨some 43, .nilCheck (.tmp 42), none, false, [], false⟩,
 ⟨some 44, .fieldAddr 58 (.tmp 43) 4, none, false, [], false⟩,
 ⟨some 45, .fieldAddr 26 (.tmp 44) 0, none, false, [], false⟩,
 ⟨some 46, .load 22 (.tmp 45), none, false, [], false⟩,
 ⟨some 47, .move (.tmp 10), none, false, [], false⟩,
 ⟨some 48, .build 26 #[(0, .tmp 46), (1, .const (.int .i64 1)), (2, .tmp 47)], none, false, [], false⟩,
 ⟨none, .store 26 (.tmp 6) (.tmp 48), none, false, [], false⟩])
 .ret))))))
noncomputable def fi8 : FI := ⟨c8, 49, [.cell 6 26], .dfr [(.reg false [
 ⟨some 3, .box 35 (.tmp 0), none, false, [], false⟩,
 ⟨some 6, .alloc 26, none, false, [], false⟩]), (.reg false [
 ⟨some 11, .load 35 (.tmp 3), none, false, [], false⟩,
 ⟨some 12, .move (.tmp 1), none, false, [], false⟩,
 ⟨some 13, .move (.tmp 2), none, false, [], false⟩,
 ⟨some 14, .build 58 #[(0, .tmp 11), (1, .tmp 12), (2, .tmp 13)], none, false, [], false⟩,
 ⟨some 15, .box 58 (.tmp 14), none, false, [], false⟩,
 ⟨some 7, .alloc 55, none, false, [], false⟩,
 ⟨none, .store 55 (.tmp 7) (.tmp 15), none, false, [], false⟩]), (.seq
 (.reg false [
 ⟨some 16, .fieldAddr 35 (.tmp 3) 0, none, false, [], false⟩,
 ⟨some 17, .load 32 (.tmp 16), none, false, [], false⟩,
 ⟨some 18, .call ⟨.builtin .len, #[.tmp 17], #[32]⟩, none, false, [], false⟩,
 ⟨some 19, .move (.const (.int .i64 0)), none, false, [], false⟩])
 (.block 0
 (.loop
 (.seq
 (.reg false [
 ⟨some 20, .binOp .lss 3 (.tmp 19) (.tmp 18) 3, none, false, [], false⟩])
 (.seq
 (.cond (.tmp 20)
 .skip
 (.exit 0))
 (.seq
 (.block 1
 (.seq
 (.reg false [
 ⟨some 21, .indexAddr 32 (.tmp 17) (.tmp 19), none, false, [], false⟩,
 ⟨some 22, .load 44 (.tmp 21), none, false, [], false⟩,
 ⟨some 9, .alloc 44, none, false, [], false⟩,
 ⟨none, .store 44 (.tmp 9) (.tmp 22), none, false, [], false⟩])
 (.reg true [
 ⟨some 28, .fieldAddr 44 (.tmp 9) 2, none, false, [], false⟩,
 ⟨some 29, .load 3 (.tmp 28), none, false, [], false⟩,
 ⟨some 30, .call ⟨.builtin .max, #[.tmp 29, .const (.int .i64 1)], #[3, 3]⟩, none, false, [], false⟩,
 ⟨some 31, .makeSlice 22 (.tmp 30) (.tmp 30), none, false, [], false⟩,
 ⟨some 32, .buildSlice 56 1 #[(0, .tmp 31)], none, false, [], false⟩,
 ⟨some 24, .load 55 (.tmp 7), none, false, [], false⟩,
 ⟨some 25, .nilCheck (.tmp 24), none, false, [], false⟩,
 ⟨some 26, .fieldAddr 58 (.tmp 25) 3, none, false, [], false⟩,
 ⟨some 27, .load 56 (.tmp 26), none, false, [], false⟩,
 ⟨some 33, .call ⟨.builtin .append, #[.tmp 27, .tmp 32], #[56, 56]⟩, none, true, [false, true, true, true], false⟩,
 ⟨some 23, .load 55 (.tmp 7), none, false, [], true⟩,
 ⟨some 34, .nilCheck (.tmp 23), none, false, [], false⟩,
 ⟨some 35, .fieldAddr 58 (.tmp 34) 3, none, false, [], false⟩,
 ⟨none, .store 56 (.tmp 35) (.tmp 33), none, false, [], false⟩])))
 (.reg false [
 ⟨some 36, .binOp .add 3 (.tmp 19) (.const (.int .i64 1)) 3, none, false, [], false⟩,
 ⟨some 19, .move (.tmp 36), none, false, [], false⟩]))))))), (.reg false [
 ⟨some 37, .makeFunc (.func 18) #[] #[.tmp 7, .tmp 6], none, false, [], false⟩])] (.tmp 37) (.seq
 (.reg true [
 ⟨some 39, .load 35 (.tmp 3), none, false, [], false⟩,
 ⟨some 40, .call ⟨.value (.func 20), #[.tmp 39], #[35]⟩, none, true, [false, true, true], false⟩,
 ⟨some 38, .load 55 (.tmp 7), none, false, [], true⟩,
 ⟨some 41, .call ⟨.value (.func 19), #[.tmp 38, .tmp 40, .const (.slice none 0 0)], #[55, 3, 22]⟩, none, false, [true], false⟩,
 ⟨some 10, .assign (.tmp 41), none, false, [], false⟩])
 (.seq
 (.reg false [
 ⟨some 42, .load 55 (.tmp 7), none, false, [], false⟩,
 ⟨some 43, .nilCheck (.tmp 42), none, false, [], false⟩,
 ⟨some 44, .fieldAddr 58 (.tmp 43) 4, none, false, [], false⟩,
 ⟨some 45, .fieldAddr 26 (.tmp 44) 0, none, false, [], false⟩,
 ⟨some 46, .load 22 (.tmp 45), none, false, [], false⟩,
 ⟨some 47, .move (.tmp 10), none, false, [], false⟩,
 ⟨some 48, .build 26 #[(0, .tmp 46), (1, .const (.int .i64 1)), (2, .tmp 47)], none, false, [], false⟩,
 ⟨none, .store 26 (.tmp 6) (.tmp 48), none, false, [], false⟩])
 .ret))⟩
noncomputable def c9 : XC :=
 (.seq
 (.reg false [
 ⟨some 0, .alloc 35, none, false, [], false⟩])
 (.seq
 (.reg false [
 ⟨some 1, .buildSlice 22 1 #[(0, .const (.int .i64 1))], none, false, [], false⟩,
 ⟨some 2, .build 24 #[(0, .const (.int .i64 1)), (2, .const (.int .i64 0)), (5, .const (.int .i64 7))], none, false, [], false⟩,
 ⟨some 3, .buildSlice 30 1 #[(0, .tmp 2)], none, false, [], false⟩,
 ⟨some 4, .build 38 #[(0, .const (.int .i64 3))], none, false, [], false⟩,
 ⟨some 5, .build 40 #[(0, .tmp 3), (1, .tmp 4)], none, false, [], false⟩,
 ⟨some 6, .buildSlice 41 1 #[(0, .tmp 5)], none, false, [], false⟩,
 ⟨some 7, .call ⟨.value (.func 7), #[.tmp 1, .tmp 6], #[22, 41]⟩, none, false, [], false⟩,
 ⟨none, .store 35 (.tmp 0) (.tmp 7), none, false, [], false⟩])
 .ret))
noncomputable def fi9 : FI := ⟨c9, 8, [.cell 0 35], .plain⟩
noncomputable def c10 : XC :=
 (.seq
 (.reg false [
 ⟨some 1, .box 35 (.tmp 0), none, false, [], false⟩,
 ⟨some 2, .assign (.const (.int .i64 0)), none, false, [], false⟩])
 (.seq
 (.seq
 (.reg false [
 ⟨some 9, .fieldAddr 35 (.tmp 1) 0, none, false, [], false⟩,
 ⟨some 10, .load 32 (.tmp 9), none, false, [], false⟩,
 ⟨some 11, .call ⟨.builtin .len, #[.tmp 10], #[32]⟩, none, false, [], false⟩,
 ⟨some 12, .move (.const (.int .i64 0)), none, false, [], false⟩])
 (.block 0
 (.loop
 (.seq
 (.reg false [
 ⟨some 13, .binOp .lss 3 (.tmp 12) (.tmp 11) 3, none, false, [], false⟩])
 (.seq
 (.cond (.tmp 13)
 .skip
 (.exit 0))
 (.seq
 (.block 1
 (.seq
 (.reg false [
 ⟨some 14, .indexAddr 32 (.tmp 10) (.tmp 12), none, false, [], false⟩,
 ⟨some 15, .load 44 (.tmp 14), none, false, [], false⟩,
 ⟨some 4, .alloc 44, none, false, [], false⟩,
 ⟨none, .store 44 (.tmp 4) (.tmp 15), none, false, [], false⟩])
 (.seq
 (.reg false [
 ⟨some 16, .fieldAddr 44 (.tmp 4) 1, none, false, [], false⟩,
 ⟨some 17, .load 3 (.tmp 16), none, false, [], false⟩,
 ⟨some 18, .call ⟨.value (.func 21), #[.tmp 17], #[3]⟩, none, false, [], false⟩,
 ⟨some 19, .unOp .not 4 (.tmp 18), none, false, [], false⟩,
 ⟨some 20, .move (.tmp 19), none, false, [], false⟩,
 ⟨some 21, .fieldAddr 44 (.tmp 4) 1, some (some 20, true), false, [], false⟩,
 ⟨some 22, .load 3 (.tmp 21), some (some 20, true), false, [], false⟩,
 ⟨some 23, .binOp .neq 3 (.tmp 22) (.const (.int .i64 3)) 3, some (some 20, true), false, [], false⟩,
 ⟨some 24, .move (.tmp 23), some (some 20, true), false, [], false⟩,
 ⟨some 25, .fieldAddr 44 (.tmp 4) 2, some (some 24, false), false, [], false⟩,
 ⟨some 26, .load 3 (.tmp 25), some (some 24, false), false, [], false⟩,
 ⟨some 27, .binOp .lss 3 (.tmp 26) (.const (.int .i64 1)) 3, some (some 24, false), false, [], false⟩,
 ⟨some 28, .pick (.tmp 24) (.const (.bool true)) (.tmp 27), some (some 20, true), false, [], false⟩,
 ⟨some 29, .pick (.tmp 20) (.tmp 28) (.const (.bool false)), none, false, [], false⟩])
 (.cond (.tmp 29)
 (.seq
 (.reg false [
 ⟨some 2, .assign (.const (.int .i64 6)), none, false, [], false⟩])
 .ret)
 .skip))))
 (.reg false [
 ⟨some 30, .binOp .add 3 (.tmp 12) (.const (.int .i64 1)) 3, none, false, [], false⟩,
 ⟨some 12, .move (.tmp 30), none, false, [], false⟩])))))))
 (.seq
 (.seq
 (.reg false [
 ⟨some 31, .fieldAddr 35 (.tmp 1) 1, none, false, [], false⟩,
 ⟨some 32, .load 33 (.tmp 31), none, false, [], false⟩,
 ⟨some 33, .call ⟨.builtin .len, #[.tmp 32], #[33]⟩, none, false, [], false⟩,
 ⟨some 34, .move (.const (.int .i64 0)), none, false, [], false⟩])
 (.block 2
 (.loop
 (.seq
 (.reg false [
 ⟨some 35, .binOp .lss 3 (.tmp 34) (.tmp 33) 3, none, false, [], false⟩])
 (.seq
 (.cond (.tmp 35)
 .skip
 (.exit 2))
 (.seq
 (.block 3
 (.seq
 (.reg false [
 ⟨some 36, .indexAddr 33 (.tmp 32) (.tmp 34), none, false, [], false⟩,
 ⟨some 37, .load 48 (.tmp 36), none, false, [], false⟩,
 ⟨some 6, .alloc 48, none, false, [], false⟩,
 ⟨none, .store 48 (.tmp 6) (.tmp 37), none, false, [], false⟩])
 (.seq
 (.reg false [
 ⟨some 38, .load 35 (.tmp 1), none, false, [], false⟩,
 ⟨some 39, .load 48 (.tmp 6), none, false, [], false⟩,
 ⟨some 40, .build 65 #[(0, .tmp 38), (1, .tmp 39)], none, false, [], false⟩,
 ⟨some 41, .call ⟨.value (.func 22), #[.tmp 40], #[65]⟩, none, false, [], false⟩,
 ⟨some 7, .assign (.tmp 41), none, false, [], false⟩])
 (.seq
 (.reg false [
 ⟨some 42, .move (.tmp 7), none, false, [], false⟩,
 ⟨some 43, .binOp .neq 27 (.tmp 42) (.const (.int .i64 0)) 27, none, false, [], false⟩])
 (.cond (.tmp 43)
 (.seq
 (.reg false [
 ⟨some 44, .move (.tmp 7), none, false, [], false⟩,
 ⟨some 2, .assign (.tmp 44), none, false, [], false⟩])
 .ret)
 .skip)))))
 (.reg false [
 ⟨some 45, .binOp .add 3 (.tmp 34) (.const (.int .i64 1)) 3, none, false, [], false⟩,
 ⟨some 34, .move (.tmp 45), none, false, [], false⟩])))))))
 (.seq
 (.reg false [
 ⟨some 46, .load 35 (.tmp 1), none, false, [], false⟩,
 ⟨some 47, .call ⟨.value (.func 20), #[.tmp 46], #[35]⟩, none, false, [], false⟩,
 ⟨some 8, .assign (.tmp 47), none, false, [], false⟩])
 (.seq
 (.seq
 (.reg false [
 ⟨some 48, .move (.tmp 8), none, false, [], false⟩,
 ⟨some 49, .binOp .lss 3 (.tmp 48) (.const (.int .i64 0)) 3, none, false, [], false⟩,
 ⟨some 50, .move (.tmp 49), none, false, [], false⟩,
 ⟨some 51, .fieldAddr 35 (.tmp 1) 1, some (some 50, false), false, [], false⟩,
 ⟨some 52, .load 33 (.tmp 51), some (some 50, false), false, [], false⟩,
 ⟨some 53, .move (.tmp 8), some (some 50, false), false, [], false⟩,
 ⟨some 54, .indexAddr 33 (.tmp 52) (.tmp 53), some (some 50, false), false, [], false⟩,
 ⟨some 55, .fieldAddr 48 (.tmp 54) 1, some (some 50, false), false, [], false⟩,
 ⟨some 56, .load 3 (.tmp 55), some (some 50, false), false, [], false⟩,
 ⟨some 57, .binOp .neq 3 (.tmp 56) (.const (.int .i64 1)) 3, some (some 50, false), false, [], false⟩,
 ⟨some 58, .pick (.tmp 50) (.const (.bool true)) (.tmp 57), none, false, [], false⟩,
 ⟨some 59, .move (.tmp 58), none, false, [], false⟩,
 ⟨some 60, .fieldAddr 35 (.tmp 1) 1, some (some 59, false), false, [], false⟩,
 ⟨some 61, .load 33 (.tmp 60), some (some 59, false), false, [], false⟩,
 ⟨some 62, .move (.tmp 8), some (some 59, false), false, [], false⟩,
 ⟨some 63, .indexAddr 33 (.tmp 61) (.tmp 62), some (some 59, false), false, [], false⟩,
 ⟨some 64, .fieldAddr 48 (.tmp 63) 2, some (some 59, false), false, [], false⟩,
 ⟨some 65, .load 3 (.tmp 64), some (some 59, false), false, [], false⟩,
 ⟨some 66, .binOp .neq 3 (.tmp 65) (.const (.int .i64 0)) 3, some (some 59, false), false, [], false⟩,
 ⟨some 67, .pick (.tmp 59) (.const (.bool true)) (.tmp 66), none, false, [], false⟩])
 (.cond (.tmp 67)
 (.seq
 (.reg false [
 ⟨some 2, .assign (.const (.int .i64 12)), none, false, [], false⟩])
 .ret)
 .skip))
 (.seq
 (.reg false [
 ⟨some 2, .assign (.const (.int .i64 0)), none, false, [], false⟩])
 .ret))))))
noncomputable def fi10 : FI := ⟨c10, 68, [.tmp 2], .plain⟩
noncomputable def c11 : XC :=
 (.seq
 (.reg false [
 ⟨some 0, .assign (.const (.bool false)), none, false, [], false⟩])
 (.seq
 (.reg false [
 ⟨some 3, .call ⟨.value (.func 9), #[], #[]⟩, none, false, [], false⟩,
 ⟨some 4, .call ⟨.value (.func 8), #[.tmp 3, .const (.slice none 0 0), .const (.int .i64 1)], #[35, 22, 3]⟩, none, false, [], false⟩,
 ⟨some 1, .alloc 26, none, false, [], false⟩,
 ⟨none, .store 26 (.tmp 1) (.tmp 4), none, false, [], false⟩])
 (.seq
 (.reg false [
 ⟨some 5, .call ⟨.value (.func 9), #[], #[]⟩, none, false, [], false⟩,
 ⟨some 6, .call ⟨.value (.func 8), #[.tmp 5, .const (.slice none 0 0), .const (.int .i64 2)], #[35, 22, 3]⟩, none, false, [], false⟩,
 ⟨some 2, .alloc 26, none, false, [], false⟩,
 ⟨none, .store 26 (.tmp 2) (.tmp 6), none, false, [], false⟩])
 (.seq
 (.reg false [
 ⟨some 7, .call ⟨.value (.func 9), #[], #[]⟩, none, false, [], false⟩,
 ⟨some 8, .call ⟨.value (.func 10), #[.tmp 7], #[35]⟩, none, false, [], false⟩,
 ⟨some 9, .binOp .eql 27 (.tmp 8) (.const (.int .i64 0)) 27, none, false, [], false⟩,
 ⟨some 10, .move (.tmp 9), none, false, [], false⟩,
 ⟨some 11, .fieldAddr 26 (.tmp 1) 1, some (some 10, true), false, [], false⟩,
 ⟨some 12, .load 3 (.tmp 11), some (some 10, true), false, [], false⟩,
 ⟨some 13, .binOp .eql 3 (.tmp 12) (.const (.int .i64 3)) 3, some (some 10, true), false, [], false⟩,
 ⟨some 14, .pick (.tmp 10) (.tmp 13) (.const (.bool false)), none, false, [], false⟩,
 ⟨some 15, .move (.tmp 14), none, false, [], false⟩,
 ⟨some 16, .fieldAddr 26 (.tmp 2) 1, some (some 15, true), false, [], false⟩,
 ⟨some 17, .load 3 (.tmp 16), some (some 15, true), false, [], false⟩,
 ⟨some 18, .binOp .eql 3 (.tmp 17) (.const (.int .i64 1)) 3, some (some 15, true), false, [], false⟩,
 ⟨some 19, .pick (.tmp 15) (.tmp 18) (.const (.bool false)), none, false, [], false⟩,
 ⟨some 20, .move (.tmp 19), none, false, [], false⟩,
 ⟨some 21, .fieldAddr 26 (.tmp 2) 2, some (some 20, true), false, [], false⟩,
 ⟨some 22, .load 3 (.tmp 21), some (some 20, true), false, [], false⟩,
 ⟨some 23, .binOp .eql 3 (.tmp 22) (.const (.int .i64 7)) 3, some (some 20, true), false, [], false⟩,
 ⟨some 24, .pick (.tmp 20) (.tmp 23) (.const (.bool false)), none, false, [], false⟩,
 ⟨some 25, .move (.tmp 24), none, false, [], false⟩,
 ⟨some 26, .fieldAddr 26 (.tmp 2) 0, some (some 25, true), false, [], false⟩,
 ⟨some 27, .load 22 (.tmp 26), some (some 25, true), false, [], false⟩,
 ⟨some 28, .call ⟨.builtin .len, #[.tmp 27], #[22]⟩, some (some 25, true), false, [], false⟩,
 ⟨some 29, .binOp .eql 3 (.tmp 28) (.const (.int .i64 0)) 3, some (some 25, true), false, [], false⟩,
 ⟨some 30, .pick (.tmp 25) (.tmp 29) (.const (.bool false)), none, false, [], false⟩,
 ⟨some 0, .assign (.tmp 30), none, false, [], false⟩])
 .ret))))
noncomputable def fi11 : FI := ⟨c11, 31, [.tmp 0], .plain⟩
noncomputable def c18 : XC :=
 (.seq
 (.reg false [
 ⟨some 4, .call ⟨.builtin .recover, #[], #[]⟩, none, false, [], false⟩,
 ⟨some 2, .assign (.tmp 4), none, false, [], false⟩])
 (.seq
 (.reg false [
 ⟨some 5, .move (.tmp 2), none, false, [], false⟩,
 ⟨some 6, .binOp .neq 20 (.tmp 5) (.const .nilIface) 20, none, false, [], false⟩])
 (.cond (.tmp 6)
 (.seq
 (.reg false [
 ⟨some 7, .move (.tmp 2), none, false, [], false⟩,
 ⟨some 8, .typeAssert (.tmp 7) 20 60 false, none, false, [], false⟩,
 ⟨some 3, .alloc 60, none, false, [], false⟩,
 ⟨none, .store 60 (.tmp 3) (.tmp 8), none, false, [], false⟩])
 (.reg true [
 ⟨some 9, .load 55 (.tmp 0), none, false, [], false⟩,
 ⟨some 10, .nilCheck (.tmp 9), none, false, [], false⟩,
 ⟨some 11, .fieldAddr 58 (.tmp 10) 4, none, false, [], false⟩,
 ⟨some 12, .fieldAddr 26 (.tmp 11) 0, none, false, [], false⟩,
 ⟨some 13, .load 22 (.tmp 12), none, false, [], false⟩,
 ⟨some 14, .fieldAddr 60 (.tmp 3) 0, none, false, [], false⟩,
 ⟨some 15, .load 3 (.tmp 14), none, false, [], false⟩,
 ⟨some 16, .fieldAddr 60 (.tmp 3) 1, none, false, [], false⟩,
 ⟨some 17, .load 3 (.tmp 16), none, false, [], false⟩,
 ⟨some 18, .build 26 #[(0, .tmp 13), (1, .tmp 15), (2, .tmp 17)], none, false, [], false⟩,
 ⟨none, .store 26 (.tmp 1) (.tmp 18), none, false, [], false⟩]))
 .skip)))
noncomputable def fi18 : FI := ⟨c18, 19, [], .rcv 4 2 (.seq
 (.reg false [
 ⟨some 5, .move (.tmp 2), none, false, [], false⟩,
 ⟨some 6, .binOp .neq 20 (.tmp 5) (.const .nilIface) 20, none, false, [], false⟩])
 (.cond (.tmp 6)
 (.seq
 (.reg false [
 ⟨some 7, .move (.tmp 2), none, false, [], false⟩,
 ⟨some 8, .typeAssert (.tmp 7) 20 60 false, none, false, [], false⟩,
 ⟨some 3, .alloc 60, none, false, [], false⟩,
 ⟨none, .store 60 (.tmp 3) (.tmp 8), none, false, [], false⟩])
 (.reg true [
 ⟨some 9, .load 55 (.tmp 0), none, false, [], false⟩,
 ⟨some 10, .nilCheck (.tmp 9), none, false, [], false⟩,
 ⟨some 11, .fieldAddr 58 (.tmp 10) 4, none, false, [], false⟩,
 ⟨some 12, .fieldAddr 26 (.tmp 11) 0, none, false, [], false⟩,
 ⟨some 13, .load 22 (.tmp 12), none, false, [], false⟩,
 ⟨some 14, .fieldAddr 60 (.tmp 3) 0, none, false, [], false⟩,
 ⟨some 15, .load 3 (.tmp 14), none, false, [], false⟩,
 ⟨some 16, .fieldAddr 60 (.tmp 3) 1, none, false, [], false⟩,
 ⟨some 17, .load 3 (.tmp 16), none, false, [], false⟩,
 ⟨some 18, .build 26 #[(0, .tmp 13), (1, .tmp 15), (2, .tmp 17)], none, false, [], false⟩,
 ⟨none, .store 26 (.tmp 1) (.tmp 18), none, false, [], false⟩]))
 .skip))⟩
noncomputable def c19 : XC :=
 (.seq
 (.reg false [
 ⟨some 6, .assign (.const (.int .i64 0)), none, false, [], false⟩])
 (.seq
 (.seq
 (.reg false [
 ⟨some 13, .move (.tmp 0), none, false, [], false⟩,
 ⟨some 14, .nilCheck (.tmp 13), none, false, [], false⟩,
 ⟨some 15, .fieldAddr 58 (.tmp 14) 5, none, false, [], false⟩,
 ⟨some 16, .load 3 (.tmp 15), none, false, [], false⟩,
 ⟨some 17, .binOp .geq 3 (.tmp 16) (.const (.int .i64 32)) 3, none, false, [], false⟩])
 (.cond (.tmp 17)
 (.reg false [
 ⟨some 18, .call ⟨.value (.func 26), #[.const (.int .i64 4)], #[3]⟩, none, false, [], false⟩])
 .skip))
 (.seq
 (.reg false [
 ⟨some 19, .move (.tmp 0), none, false, [], false⟩,
 ⟨some 20, .nilCheck (.tmp 19), none, false, [], false⟩,
 ⟨some 21, .fieldAddr 58 (.tmp 20) 5, none, false, [], false⟩,
 ⟨some 22, .load 3 (.tmp 21), none, false, [], false⟩,
 ⟨some 23, .binOp .add 3 (.tmp 22) (.const (.int .i64 1)) 3, none, false, [], false⟩,
 ⟨some 24, .nilCheck (.tmp 19), none, false, [], false⟩,
 ⟨some 25, .fieldAddr 58 (.tmp 24) 5, none, false, [], false⟩,
 ⟨none, .store 3 (.tmp 25) (.tmp 23), none, false, [], false⟩])
 (.seq
 (.reg false [
 ⟨some 26, .move (.tmp 0), none, false, [], false⟩,
 ⟨some 27, .nilCheck (.tmp 26), none, false, [], false⟩,
 ⟨some 28, .fieldAddr 58 (.tmp 27) 0, none, false, [], false⟩,
 ⟨some 29, .fieldAddr 35 (.tmp 28) 1, none, false, [], false⟩,
 ⟨some 30, .load 33 (.tmp 29), none, false, [], false⟩,
 ⟨some 31, .move (.tmp 1), none, false, [], false⟩,
 ⟨some 32, .indexAddr 33 (.tmp 30) (.tmp 31), none, false, [], false⟩,
 ⟨some 33, .load 48 (.tmp 32), none, false, [], false⟩,
 ⟨some 7, .alloc 48, none, false, [], false⟩,
 ⟨none, .store 48 (.tmp 7) (.tmp 33), none, false, [], false⟩])
 (.seq
 (.reg false [
 ⟨some 34, .fieldAddr 48 (.tmp 7) 3, none, false, [], false⟩,
 ⟨some 35, .load 22 (.tmp 34), none, false, [], false⟩,
 ⟨some 36, .call ⟨.builtin .len, #[.tmp 35], #[22]⟩, none, false, [], false⟩,
 ⟨some 37, .makeSlice 22 (.tmp 36) (.tmp 36), none, false, [], false⟩,
 ⟨some 8, .assign (.tmp 37), none, false, [], false⟩])
 (.seq
 (.reg false [
 ⟨some 38, .move (.tmp 8), none, false, [], false⟩,
 ⟨some 39, .move (.tmp 2), none, false, [], false⟩,
 ⟨some 40, .call ⟨.builtin .copy, #[.tmp 38, .tmp 39], #[22, 22]⟩, none, false, [], false⟩])
 (.seq
 (.reg false [
 ⟨some 9, .assign (.const (.int .i64 0)), none, false, [], false⟩])
 (.block 0
 (.loop
 (.block 1
 (.seq
 (.seq
 (.reg false [
 ⟨some 41, .fieldAddr 48 (.tmp 7) 4, none, false, [], false⟩,
 ⟨some 42, .load 41 (.tmp 41), none, false, [], false⟩,
 ⟨some 43, .move (.tmp 9), none, false, [], false⟩,
 ⟨some 44, .indexAddr 41 (.tmp 42) (.tmp 43), none, false, [], false⟩,
 ⟨some 45, .fieldAddr 40 (.tmp 44) 0, none, false, [], false⟩,
 ⟨some 46, .load 30 (.tmp 45), none, false, [], false⟩,
 ⟨some 47, .call ⟨.builtin .len, #[.tmp 46], #[30]⟩, none, false, [], false⟩,
 ⟨some 48, .move (.const (.int .i64 0)), none, false, [], false⟩])
 (.block 2
 (.loop
 (.seq
 (.reg false [
 ⟨some 49, .binOp .lss 3 (.tmp 48) (.tmp 47) 3, none, false, [], false⟩])
 (.seq
 (.cond (.tmp 49)
 .skip
 (.exit 2))
 (.seq
 (.block 3
 (.seq
 (.reg false [
 ⟨some 50, .indexAddr 30 (.tmp 46) (.tmp 48), none, false, [], false⟩,
 ⟨some 51, .load 24 (.tmp 50), none, false, [], false⟩,
 ⟨some 11, .alloc 24, none, false, [], false⟩,
 ⟨none, .store 24 (.tmp 11) (.tmp 51), none, false, [], false⟩])
 (.seq
 (.reg false [
 ⟨some 52, .move (.tmp 0), none, false, [], false⟩,
 ⟨some 53, .call ⟨.value (.func 27), #[.tmp 52], #[55]⟩, none, false, [], false⟩])
 (.seq
 (.reg false [
 ⟨some 54, .fieldAddr 24 (.tmp 11) 0, none, false, [], false⟩,
 ⟨some 55, .load 3 (.tmp 54), none, false, [], false⟩,
 ⟨some 56, .binOp .eql 3 (.tmp 55) (.const (.int .i64 9)) 3, none, false, [], false⟩])
 (.cond (.tmp 56)
 (.reg false [
 ⟨some 57, .move (.tmp 0), none, false, [], false⟩,
 ⟨some 58, .load 24 (.tmp 11), none, false, [], false⟩,
 ⟨some 59, .move (.tmp 8), none, false, [], false⟩,
 ⟨some 60, .call ⟨.value (.func 28), #[.tmp 57, .tmp 58, .tmp 59], #[55, 24, 22]⟩, none, false, [], false⟩])
 (.reg false [
 ⟨some 61, .move (.tmp 0), none, false, [], false⟩,
 ⟨some 62, .load 24 (.tmp 11), none, false, [], false⟩,
 ⟨some 63, .move (.tmp 8), none, false, [], false⟩,
 ⟨some 64, .call ⟨.value (.func 29), #[.tmp 61, .tmp 62, .tmp 63], #[55, 24, 22]⟩, none, false, [], false⟩]))))))
 (.reg false [
 ⟨some 65, .binOp .add 3 (.tmp 48) (.const (.int .i64 1)) 3, none, false, [], false⟩,
 ⟨some 48, .move (.tmp 65), none, false, [], false⟩])))))))
 (.seq
 (.reg false [
 ⟨some 66, .move (.tmp 0), none, false, [], false⟩,
 ⟨some 67, .call ⟨.value (.func 27), #[.tmp 66], #[55]⟩, none, false, [], false⟩])
 (.seq
 (.reg false [
 ⟨some 68, .fieldAddr 48 (.tmp 7) 4, none, false, [], false⟩,
 ⟨some 69, .load 41 (.tmp 68), none, false, [], false⟩,
 ⟨some 70, .move (.tmp 9), none, false, [], false⟩,
 ⟨some 71, .indexAddr 41 (.tmp 69) (.tmp 70), none, false, [], false⟩,
 ⟨some 72, .fieldAddr 40 (.tmp 71) 1, none, false, [], false⟩,
 ⟨some 73, .load 38 (.tmp 72), none, false, [], false⟩,
 ⟨some 12, .alloc 38, none, false, [], false⟩,
 ⟨none, .store 38 (.tmp 12) (.tmp 73), none, false, [], false⟩])
 (.block 4
 (.seq
 (.reg false [
 ⟨some 77, .fieldAddr 38 (.tmp 12) 0, none, false, [], false⟩,
 ⟨some 78, .load 3 (.tmp 77), none, false, [], false⟩,
 ⟨some 79, .binOp .eql 3 (.tmp 78) (.const (.int .i64 3)) 3, none, false, [], false⟩,
 ⟨some 76, .assign (.tmp 79), none, false, [], false⟩])
 (.cond (.tmp 76)
 (.seq
 (.reg false [
 ⟨some 80, .move (.tmp 0), none, false, [], false⟩,
 ⟨some 81, .nilCheck (.tmp 80), none, false, [], false⟩,
 ⟨some 82, .fieldAddr 58 (.tmp 81) 5, none, false, [], false⟩,
 ⟨some 83, .load 3 (.tmp 82), none, false, [], false⟩,
 ⟨some 84, .binOp .sub 3 (.tmp 83) (.const (.int .i64 1)) 3, none, false, [], false⟩,
 ⟨some 85, .nilCheck (.tmp 80), none, false, [], false⟩,
 ⟨some 86, .fieldAddr 58 (.tmp 85) 5, none, false, [], false⟩,
 ⟨none, .store 3 (.tmp 86) (.tmp 84), none, false, [], false⟩])
 (.seq
 (.seq
 (.reg false [
 ⟨some 87, .fieldAddr 38 (.tmp 12) 1, none, false, [], false⟩,
 ⟨some 88, .load 3 (.tmp 87), none, false, [], false⟩,
 ⟨some 89, .binOp .lss 3 (.tmp 88) (.const (.int .i64 0)) 3, none, false, [], false⟩])
 (.cond (.tmp 89)
 (.seq
 (.reg false [
 ⟨some 6, .assign (.const (.int .i64 0)), none, false, [], false⟩])
 .ret)
 .skip))
 (.seq
 (.reg false [
 ⟨some 90, .move (.tmp 8), none, false, [], false⟩,
 ⟨some 91, .fieldAddr 38 (.tmp 12) 1, none, false, [], false⟩,
 ⟨some 92, .load 3 (.tmp 91), none, false, [], false⟩,
 ⟨some 93, .indexAddr 22 (.tmp 90) (.tmp 92), none, false, [], false⟩,
 ⟨some 94, .load 3 (.tmp 93), none, false, [], false⟩,
 ⟨some 6, .assign (.tmp 94), none, false, [], false⟩])
 .ret)))
 (.seq
 (.reg false [
 ⟨some 96, .fieldAddr 38 (.tmp 12) 0, none, false, [], false⟩,
 ⟨some 97, .load 3 (.tmp 96), none, false, [], false⟩,
 ⟨some 98, .binOp .eql 3 (.tmp 97) (.const (.int .i64 2)) 3, none, false, [], false⟩,
 ⟨some 99, .move (.tmp 98), none, false, [], false⟩,
 ⟨some 100, .move (.tmp 8), some (some 99, true), false, [], false⟩,
 ⟨some 101, .fieldAddr 38 (.tmp 12) 1, some (some 99, true), false, [], false⟩,
 ⟨some 102, .load 3 (.tmp 101), some (some 99, true), false, [], false⟩,
 ⟨some 103, .indexAddr 22 (.tmp 100) (.tmp 102), some (some 99, true), false, [], false⟩,
 ⟨some 104, .load 3 (.tmp 103), some (some 99, true), false, [], false⟩,
 ⟨some 105, .binOp .eql 3 (.tmp 104) (.const (.int .i64 0)) 3, some (some 99, true), false, [], false⟩,
 ⟨some 106, .pick (.tmp 99) (.tmp 105) (.const (.bool false)), none, false, [], false⟩,
 ⟨some 95, .assign (.tmp 106), none, false, [], false⟩])
 (.cond (.tmp 95)
 (.reg false [
 ⟨some 107, .fieldAddr 38 (.tmp 12) 3, none, false, [], false⟩,
 ⟨some 108, .load 3 (.tmp 107), none, false, [], false⟩,
 ⟨some 9, .assign (.tmp 108), none, false, [], false⟩])
 (.reg false [
 ⟨some 74, .fieldAddr 38 (.tmp 12) 2, none, false, [], false⟩,
 ⟨some 75, .load 3 (.tmp 74), none, false, [], false⟩,
 ⟨some 9, .assign (.tmp 75), none, false, [], false⟩])))))))))))))))))))
noncomputable def fi19 : FI := ⟨c19, 109, [.tmp 6], .plain⟩
noncomputable def c20 : XC :=
 (.seq
 (.reg false [
 ⟨some 1, .box 35 (.tmp 0), none, false, [], false⟩,
 ⟨some 2, .assign (.const (.int .i64 0)), none, false, [], false⟩])
 (.seq
 (.reg false [
 ⟨some 3, .fieldAddr 35 (.tmp 1) 1, none, false, [], false⟩,
 ⟨some 4, .load 33 (.tmp 3), none, false, [], false⟩,
 ⟨some 5, .call ⟨.value (.func 30), #[.tmp 4, .func 31], #[33, 79]⟩, none, false, [], false⟩,
 ⟨some 2, .assign (.tmp 5), none, false, [], false⟩])
 .ret))
noncomputable def fi20 : FI := ⟨c20, 6, [.tmp 2], .plain⟩
noncomputable def c21 : XC :=
 (.seq
 (.reg false [
 ⟨some 2, .assign (.const (.bool false)), none, false, [], false⟩])
 (.seq
 (.reg false [
 ⟨some 3, .move (.tmp 0), none, false, [], false⟩,
 ⟨some 4, .binOp .eql 3 (.tmp 3) (.const (.int .i64 1)) 3, none, false, [], false⟩,
 ⟨some 5, .move (.tmp 4), none, false, [], false⟩,
 ⟨some 6, .move (.tmp 0), some (some 5, false), false, [], false⟩,
 ⟨some 7, .binOp .eql 3 (.tmp 6) (.const (.int .i64 2)) 3, some (some 5, false), false, [], false⟩,
 ⟨some 8, .pick (.tmp 5) (.const (.bool true)) (.tmp 7), none, false, [], false⟩,
 ⟨some 2, .assign (.tmp 8), none, false, [], false⟩])
 .ret))
noncomputable def fi21 : FI := ⟨c21, 9, [.tmp 2], .plain⟩
noncomputable def c22 : XC :=
 (.seq
 (.reg false [
 ⟨some 1, .box 65 (.tmp 0), none, false, [], false⟩,
 ⟨some 2, .assign (.const (.int .i64 0)), none, false, [], false⟩])
 (.seq
 (.reg false [
 ⟨some 10, .fieldAddr 65 (.tmp 1) 1, none, false, [], false⟩,
 ⟨some 11, .load 48 (.tmp 10), none, false, [], false⟩,
 ⟨some 3, .alloc 48, none, false, [], false⟩,
 ⟨none, .store 48 (.tmp 3) (.tmp 11), none, false, [], false⟩])
 (.seq
 (.block 0
 (.seq
 (.reg false [
 ⟨some 13, .fieldAddr 48 (.tmp 3) 4, none, false, [], false⟩,
 ⟨some 14, .load 41 (.tmp 13), none, false, [], false⟩,
 ⟨some 15, .call ⟨.builtin .len, #[.tmp 14], #[41]⟩, none, false, [], false⟩,
 ⟨some 16, .binOp .lss 3 (.tmp 15) (.const (.int .i64 1)) 3, none, false, [], false⟩,
 ⟨some 17, .move (.tmp 16), none, false, [], false⟩,
 ⟨some 18, .fieldAddr 48 (.tmp 3) 4, some (some 17, false), false, [], false⟩,
 ⟨some 19, .load 41 (.tmp 18), some (some 17, false), false, [], false⟩,
 ⟨some 20, .call ⟨.builtin .len, #[.tmp 19], #[41]⟩, some (some 17, false), false, [], false⟩,
 ⟨some 21, .binOp .gtr 3 (.tmp 20) (.const (.int .i64 400)) 3, some (some 17, false), false, [], false⟩,
 ⟨some 22, .pick (.tmp 17) (.const (.bool true)) (.tmp 21), none, false, [], false⟩,
 ⟨some 23, .move (.tmp 22), none, false, [], false⟩,
 ⟨some 24, .fieldAddr 48 (.tmp 3) 3, some (some 23, false), false, [], false⟩,
 ⟨some 25, .load 22 (.tmp 24), some (some 23, false), false, [], false⟩,
 ⟨some 26, .call ⟨.builtin .len, #[.tmp 25], #[22]⟩, some (some 23, false), false, [], false⟩,
 ⟨some 27, .binOp .gtr 3 (.tmp 26) (.const (.int .i64 4096)) 3, some (some 23, false), false, [], false⟩,
 ⟨some 28, .pick (.tmp 23) (.const (.bool true)) (.tmp 27), none, false, [], false⟩,
 ⟨some 12, .assign (.tmp 28), none, false, [], false⟩])
 (.cond (.tmp 12)
 (.seq
 (.reg false [
 ⟨some 2, .assign (.const (.int .i64 9)), none, false, [], false⟩])
 .ret)
 (.seq
 (.reg false [
 ⟨some 30, .fieldAddr 48 (.tmp 3) 2, none, false, [], false⟩,
 ⟨some 31, .load 3 (.tmp 30), none, false, [], false⟩,
 ⟨some 32, .binOp .lss 3 (.tmp 31) (.const (.int .i64 0)) 3, none, false, [], false⟩,
 ⟨some 33, .move (.tmp 32), none, false, [], false⟩,
 ⟨some 34, .fieldAddr 48 (.tmp 3) 2, some (some 33, false), false, [], false⟩,
 ⟨some 35, .load 3 (.tmp 34), some (some 33, false), false, [], false⟩,
 ⟨some 36, .fieldAddr 48 (.tmp 3) 3, some (some 33, false), false, [], false⟩,
 ⟨some 37, .load 22 (.tmp 36), some (some 33, false), false, [], false⟩,
 ⟨some 38, .call ⟨.builtin .len, #[.tmp 37], #[22]⟩, some (some 33, false), false, [], false⟩,
 ⟨some 39, .binOp .gtr 3 (.tmp 35) (.tmp 38) 3, some (some 33, false), false, [], false⟩,
 ⟨some 40, .pick (.tmp 33) (.const (.bool true)) (.tmp 39), none, false, [], false⟩,
 ⟨some 29, .assign (.tmp 40), none, false, [], false⟩])
 (.cond (.tmp 29)
 (.seq
 (.reg false [
 ⟨some 2, .assign (.const (.int .i64 11)), none, false, [], false⟩])
 .ret)
 (.seq
 (.reg false [
 ⟨some 42, .fieldAddr 48 (.tmp 3) 1, none, false, [], false⟩,
 ⟨some 43, .load 3 (.tmp 42), none, false, [], false⟩,
 ⟨some 44, .binOp .lss 3 (.tmp 43) (.const (.int .i64 0)) 3, none, false, [], false⟩,
 ⟨some 45, .move (.tmp 44), none, false, [], false⟩,
 ⟨some 46, .fieldAddr 48 (.tmp 3) 1, some (some 45, false), false, [], false⟩,
 ⟨some 47, .load 3 (.tmp 46), some (some 45, false), false, [], false⟩,
 ⟨some 48, .binOp .gtr 3 (.tmp 47) (.const (.int .i64 2)) 3, some (some 45, false), false, [], false⟩,
 ⟨some 49, .pick (.tmp 45) (.const (.bool true)) (.tmp 48), none, false, [], false⟩,
 ⟨some 50, .move (.tmp 49), none, false, [], false⟩,
 ⟨some 51, .fieldAddr 48 (.tmp 3) 3, some (some 50, false), false, [], false⟩,
 ⟨some 52, .load 22 (.tmp 51), some (some 50, false), false, [], false⟩,
 ⟨some 53, .call ⟨.value (.func 32), #[.tmp 52, .func 33], #[22, 63]⟩, some (some 50, false), false, [], false⟩,
 ⟨some 54, .pick (.tmp 50) (.const (.bool true)) (.tmp 53), none, false, [], false⟩,
 ⟨some 41, .assign (.tmp 54), none, false, [], false⟩])
 (.cond (.tmp 41)
 (.seq
 (.reg false [
 ⟨some 2, .assign (.const (.int .i64 6)), none, false, [], false⟩])
 .ret)
 .skip)))))))
 (.seq
 (.seq
 (.reg false [
 ⟨some 55, .fieldAddr 48 (.tmp 3) 4, none, false, [], false⟩,
 ⟨some 56, .load 41 (.tmp 55), none, false, [], false⟩,
 ⟨some 57, .call ⟨.builtin .len, #[.tmp 56], #[41]⟩, none, false, [], false⟩,
 ⟨some 58, .move (.const (.int .i64 0)), none, false, [], false⟩])
 (.block 1
 (.loop
 (.seq
 (.reg false [
 ⟨some 59, .binOp .lss 3 (.tmp 58) (.tmp 57) 3, none, false, [], false⟩])
 (.seq
 (.cond (.tmp 59)
 .skip
 (.exit 1))
 (.seq
 (.block 2
 (.seq
 (.reg false [
 ⟨some 60, .indexAddr 41 (.tmp 56) (.tmp 58), none, false, [], false⟩,
 ⟨some 61, .load 40 (.tmp 60), none, false, [], false⟩,
 ⟨some 5, .alloc 40, none, false, [], false⟩,
 ⟨none, .store 40 (.tmp 5) (.tmp 61), none, false, [], false⟩])
 (.seq
 (.seq
 (.reg false [
 ⟨some 62, .fieldAddr 40 (.tmp 5) 0, none, false, [], false⟩,
 ⟨some 63, .load 30 (.tmp 62), none, false, [], false⟩,
 ⟨some 64, .call ⟨.builtin .len, #[.tmp 63], #[30]⟩, none, false, [], false⟩,
 ⟨some 65, .move (.const (.int .i64 0)), none, false, [], false⟩])
 (.block 3
 (.loop
 (.seq
 (.reg false [
 ⟨some 66, .binOp .lss 3 (.tmp 65) (.tmp 64) 3, none, false, [], false⟩])
 (.seq
 (.cond (.tmp 66)
 .skip
 (.exit 3))
 (.seq
 (.block 4
 (.seq
 (.reg false [
 ⟨some 67, .indexAddr 30 (.tmp 63) (.tmp 65), none, false, [], false⟩,
 ⟨some 68, .load 24 (.tmp 67), none, false, [], false⟩,
 ⟨some 7, .alloc 24, none, false, [], false⟩,
 ⟨none, .store 24 (.tmp 7) (.tmp 68), none, false, [], false⟩])
 (.seq
 (.reg false [
 ⟨some 69, .load 65 (.tmp 1), none, false, [], false⟩,
 ⟨some 70, .load 24 (.tmp 7), none, false, [], false⟩,
 ⟨some 71, .call ⟨.value (.func 34), #[.tmp 69, .tmp 70], #[65, 24]⟩, none, false, [], false⟩,
 ⟨some 8, .assign (.tmp 71), none, false, [], false⟩])
 (.seq
 (.reg false [
 ⟨some 72, .move (.tmp 8), none, false, [], false⟩,
 ⟨some 73, .binOp .neq 27 (.tmp 72) (.const (.int .i64 0)) 27, none, false, [], false⟩])
 (.cond (.tmp 73)
 (.seq
 (.reg false [
 ⟨some 74, .move (.tmp 8), none, false, [], false⟩,
 ⟨some 2, .assign (.tmp 74), none, false, [], false⟩])
 .ret)
 .skip)))))
 (.reg false [
 ⟨some 75, .binOp .add 3 (.tmp 65) (.const (.int .i64 1)) 3, none, false, [], false⟩,
 ⟨some 65, .move (.tmp 75), none, false, [], false⟩])))))))
 (.seq
 (.reg false [
 ⟨some 76, .load 65 (.tmp 1), none, false, [], false⟩,
 ⟨some 77, .fieldAddr 40 (.tmp 5) 1, none, false, [], false⟩,
 ⟨some 78, .load 38 (.tmp 77), none, false, [], false⟩,
 ⟨some 79, .call ⟨.value (.func 35), #[.tmp 76, .tmp 78], #[65, 38]⟩, none, false, [], false⟩,
 ⟨some 9, .assign (.tmp 79), none, false, [], false⟩])
 (.seq
 (.reg false [
 ⟨some 80, .move (.tmp 9), none, false, [], false⟩,
 ⟨some 81, .binOp .neq 27 (.tmp 80) (.const (.int .i64 0)) 27, none, false, [], false⟩])
 (.cond (.tmp 81)
 (.seq
 (.reg false [
 ⟨some 82, .move (.tmp 9), none, false, [], false⟩,
 ⟨some 2, .assign (.tmp 82), none, false, [], false⟩])
 .ret)
 .skip))))))
 (.reg false [
 ⟨some 83, .binOp .add 3 (.tmp 58) (.const (.int .i64 1)) 3, none, false, [], false⟩,
 ⟨some 58, .move (.tmp 83), none, false, [], false⟩])))))))
 (.seq
 (.reg false [
 ⟨some 2, .assign (.const (.int .i64 0)), none, false, [], false⟩])
 .ret)))))
noncomputable def fi22 : FI := ⟨c22, 84, [.tmp 2], .plain⟩
noncomputable def c26 : XC :=
 (.seq
 (.reg false [
 ⟨some 2, .move (.tmp 0), none, false, [], false⟩,
 ⟨some 3, .binOp .neq 3 (.tmp 2) (.const (.int .i64 0)) 3, none, false, [], false⟩])
 (.cond (.tmp 3)
 (.reg false [
 ⟨some 4, .move (.tmp 0), none, false, [], false⟩,
 ⟨some 5, .build 60 #[(0, .const (.int .i64 2)), (1, .tmp 4)], none, false, [], false⟩,
 ⟨some 6, .makeInterface 60 (.tmp 5), none, false, [], false⟩,
 ⟨none, .panic (.tmp 6), none, false, [], false⟩])
 .skip))
noncomputable def fi26 : FI := ⟨c26, 7, [], .plain⟩
noncomputable def c27 : XC :=
 (.seq
 (.seq
 (.reg false [
 ⟨some 2, .move (.tmp 0), none, false, [], false⟩,
 ⟨some 3, .nilCheck (.tmp 2), none, false, [], false⟩,
 ⟨some 4, .fieldAddr 58 (.tmp 3) 2, none, false, [], false⟩,
 ⟨some 5, .load 3 (.tmp 4), none, false, [], false⟩,
 ⟨some 6, .binOp .lss 3 (.tmp 5) (.const (.int .i64 1)) 3, none, false, [], false⟩])
 (.cond (.tmp 6)
 (.reg false [
 ⟨some 7, .build 60 #[(0, .const (.int .i64 3)), (1, .const (.int .i64 0))], none, false, [], false⟩,
 ⟨some 8, .makeInterface 60 (.tmp 7), none, false, [], false⟩,
 ⟨none, .panic (.tmp 8), none, false, [], false⟩])
 .skip))
 (.reg false [
 ⟨some 9, .move (.tmp 0), none, false, [], false⟩,
 ⟨some 10, .nilCheck (.tmp 9), none, false, [], false⟩,
 ⟨some 11, .fieldAddr 58 (.tmp 10) 2, none, false, [], false⟩,
 ⟨some 12, .load 3 (.tmp 11), none, false, [], false⟩,
 ⟨some 13, .binOp .sub 3 (.tmp 12) (.const (.int .i64 1)) 3, none, false, [], false⟩,
 ⟨some 14, .nilCheck (.tmp 9), none, false, [], false⟩,
 ⟨some 15, .fieldAddr 58 (.tmp 14) 2, none, false, [], false⟩,
 ⟨none, .store 3 (.tmp 15) (.tmp 13), none, false, [], false⟩]))
noncomputable def fi27 : FI := ⟨c27, 16, [], .plain⟩
noncomputable def c28 : XC :=
 (.seq
 (.reg false [
 ⟨some 4, .box 24 (.tmp 1), none, false, [], false⟩])
 (.seq
 (.reg false [
 ⟨some 6, .assign (.const (.slice none 0 0)), none, false, [], false⟩])
 (.seq
 (.seq
 (.reg false [
 ⟨some 10, .fieldAddr 24 (.tmp 4) 7, none, false, [], false⟩,
 ⟨some 11, .load 22 (.tmp 10), none, false, [], false⟩,
 ⟨some 12, .call ⟨.builtin .len, #[.tmp 11], #[22]⟩, none, false, [], false⟩,
 ⟨some 13, .move (.const (.int .i64 0)), none, false, [], false⟩])
 (.block 0
 (.loop
 (.seq
 (.reg false [
 ⟨some 14, .binOp .lss 3 (.tmp 13) (.tmp 12) 3, none, false, [], false⟩])
 (.seq
 (.cond (.tmp 14)
 .skip
 (.exit 0))
 (.seq
 (.block 1
 (.seq
 (.reg false [
 ⟨some 15, .indexAddr 22 (.tmp 11) (.tmp 13), none, false, [], false⟩,
 ⟨some 16, .load 3 (.tmp 15), none, false, [], false⟩,
 ⟨some 8, .assign (.tmp 16), none, false, [], false⟩])
 (.reg false [
 ⟨some 17, .move (.tmp 6), none, false, [], false⟩,
 ⟨some 18, .move (.tmp 2), none, false, [], false⟩,
 ⟨some 19, .move (.tmp 8), none, false, [], false⟩,
 ⟨some 20, .indexAddr 22 (.tmp 18) (.tmp 19), none, false, [], false⟩,
 ⟨some 21, .load 3 (.tmp 20), none, false, [], false⟩,
 ⟨some 22, .buildSlice 22 1 #[(0, .tmp 21)], none, false, [], false⟩,
 ⟨some 23, .call ⟨.builtin .append, #[.tmp 17, .tmp 22], #[22, 22]⟩, none, false, [], false⟩,
 ⟨some 6, .assign (.tmp 23), none, false, [], false⟩])))
 (.reg false [
 ⟨some 24, .binOp .add 3 (.tmp 13) (.const (.int .i64 1)) 3, none, false, [], false⟩,
 ⟨some 13, .move (.tmp 24), none, false, [], false⟩])))))))
 (.seq
 (.reg false [
 ⟨some 25, .move (.tmp 0), none, false, [], false⟩,
 ⟨some 26, .fieldAddr 24 (.tmp 4) 5, none, false, [], false⟩,
 ⟨some 27, .load 3 (.tmp 26), none, false, [], false⟩,
 ⟨some 28, .move (.tmp 6), none, false, [], false⟩,
 ⟨some 29, .call ⟨.value (.func 19), #[.tmp 25, .tmp 27, .tmp 28], #[55, 3, 22]⟩, none, false, [], false⟩,
 ⟨some 9, .assign (.tmp 29), none, false, [], false⟩])
 (.seq
 (.reg false [
 ⟨some 30, .fieldAddr 24 (.tmp 4) 2, none, false, [], false⟩,
 ⟨some 31, .load 3 (.tmp 30), none, false, [], false⟩,
 ⟨some 32, .binOp .geq 3 (.tmp 31) (.const (.int .i64 0)) 3, none, false, [], false⟩])
 (.cond (.tmp 32)
 (.reg false [
 ⟨some 33, .move (.tmp 2), none, false, [], false⟩,
 ⟨some 34, .fieldAddr 24 (.tmp 4) 2, none, false, [], false⟩,
 ⟨some 35, .load 3 (.tmp 34), none, false, [], false⟩,
 ⟨some 36, .move (.tmp 9), none, false, [], false⟩,
 ⟨some 37, .indexAddr 22 (.tmp 33) (.tmp 35), none, false, [], false⟩,
 ⟨none, .store 3 (.tmp 37) (.tmp 36), none, false, [], false⟩])
 .skip))))))
noncomputable def fi28 : FI := ⟨c28, 38, [], .plain⟩
noncomputable def c29 : XC :=
 (.seq
 (.reg false [
 ⟨some 4, .box 24 (.tmp 1), none, false, [], false⟩])
 (.seq
 (.reg false [
 ⟨some 8, .fieldAddr 24 (.tmp 4) 0, none, false, [], false⟩,
 ⟨some 9, .load 3 (.tmp 8), none, false, [], false⟩])
 (.block 0
 (.seq
 (.reg false [
 ⟨some 11, .binOp .eql 3 (.tmp 9) (.const (.int .i64 1)) 3, none, false, [], false⟩,
 ⟨some 10, .assign (.tmp 11), none, false, [], false⟩])
 (.cond (.tmp 10)
 (.reg false [
 ⟨some 12, .move (.tmp 2), none, false, [], false⟩,
 ⟨some 13, .fieldAddr 24 (.tmp 4) 2, none, false, [], false⟩,
 ⟨some 14, .load 3 (.tmp 13), none, false, [], false⟩,
 ⟨some 15, .fieldAddr 24 (.tmp 4) 5, none, false, [], false⟩,
 ⟨some 16, .load 3 (.tmp 15), none, false, [], false⟩,
 ⟨some 17, .indexAddr 22 (.tmp 12) (.tmp 14), none, false, [], false⟩,
 ⟨none, .store 3 (.tmp 17) (.tmp 16), none, false, [], false⟩])
 (.seq
 (.reg false [
 ⟨some 19, .binOp .eql 3 (.tmp 9) (.const (.int .i64 2)) 3, none, false, [], false⟩,
 ⟨some 18, .assign (.tmp 19), none, false, [], false⟩])
 (.cond (.tmp 18)
 (.reg true [
 ⟨some 20, .move (.tmp 2), none, false, [], false⟩,
 ⟨some 21, .fieldAddr 24 (.tmp 4) 2, none, false, [], false⟩,
 ⟨some 22, .load 3 (.tmp 21), none, false, [], false⟩,
 ⟨some 23, .move (.tmp 2), none, false, [], false⟩,
 ⟨some 24, .fieldAddr 24 (.tmp 4) 3, none, false, [], false⟩,
 ⟨some 25, .load 3 (.tmp 24), none, false, [], false⟩,
 ⟨some 26, .indexAddr 22 (.tmp 23) (.tmp 25), none, false, [], false⟩,
 ⟨some 27, .load 3 (.tmp 26), none, false, [], false⟩,
 ⟨some 28, .indexAddr 22 (.tmp 20) (.tmp 22), none, false, [], false⟩,
 ⟨none, .store 3 (.tmp 28) (.tmp 27), none, false, [], false⟩])
 (.seq
 (.reg false [
 ⟨some 30, .binOp .eql 3 (.tmp 9) (.const (.int .i64 3)) 3, none, false, [], false⟩,
 ⟨some 29, .assign (.tmp 30), none, false, [], false⟩])
 (.cond (.tmp 29)
 (.seq
 (.reg true [
 ⟨some 32, .fieldAddr 24 (.tmp 4) 1, none, false, [], false⟩,
 ⟨some 33, .load 3 (.tmp 32), none, false, [], false⟩,
 ⟨some 34, .fieldAddr 24 (.tmp 4) 6, none, false, [], false⟩,
 ⟨some 35, .load 9 (.tmp 34), none, false, [], false⟩,
 ⟨some 36, .move (.tmp 2), none, false, [], false⟩,
 ⟨some 37, .fieldAddr 24 (.tmp 4) 3, none, false, [], false⟩,
 ⟨some 38, .load 3 (.tmp 37), none, false, [], false⟩,
 ⟨some 39, .indexAddr 22 (.tmp 36) (.tmp 38), none, false, [], false⟩,
 ⟨some 40, .load 3 (.tmp 39), none, false, [], false⟩,
 ⟨some 41, .move (.tmp 2), none, false, [], false⟩,
 ⟨some 42, .fieldAddr 24 (.tmp 4) 4, none, false, [], false⟩,
 ⟨some 43, .load 3 (.tmp 42), none, false, [], false⟩,
 ⟨some 44, .indexAddr 22 (.tmp 41) (.tmp 43), none, false, [], false⟩,
 ⟨some 45, .load 3 (.tmp 44), none, false, [], false⟩,
 ⟨some 46, .call ⟨.value (.func 41), #[.tmp 33, .tmp 35, .tmp 40, .tmp 45], #[3, 9, 3, 3]⟩, none, false, [true, true, true, true, true], false⟩,
 ⟨some 31, .move (.tmp 46), none, false, [], false⟩,
 ⟨some 47, .extract (.tmp 31) 0, none, false, [], false⟩,
 ⟨some 48, .extract (.tmp 31) 1, none, false, [], false⟩,
 ⟨some 6, .assign (.tmp 47), none, false, [], false⟩,
 ⟨some 7, .assign (.tmp 48), none, false, [], false⟩])
 (.seq
 (.reg false [
 ⟨some 49, .move (.tmp 7), none, false, [], false⟩,
 ⟨some 50, .call ⟨.value (.func 26), #[.tmp 49], #[3]⟩, none, false, [], false⟩])
 (.reg false [
 ⟨some 51, .move (.tmp 2), none, false, [], false⟩,
 ⟨some 52, .fieldAddr 24 (.tmp 4) 2, none, false, [], false⟩,
 ⟨some 53, .load 3 (.tmp 52), none, false, [], false⟩,
 ⟨some 54, .move (.tmp 6), none, false, [], false⟩,
 ⟨some 55, .indexAddr 22 (.tmp 51) (.tmp 53), none, false, [], false⟩,
 ⟨none, .store 3 (.tmp 55) (.tmp 54), none, false, [], false⟩])))
 (.seq
 (.reg false [
 ⟨some 57, .binOp .eql 3 (.tmp 9) (.const (.int .i64 4)) 3, none, false, [], false⟩,
 ⟨some 56, .assign (.tmp 57), none, false, [], false⟩])
 (.cond (.tmp 56)
 (.reg true [
 ⟨some 61, .fieldAddr 24 (.tmp 4) 1, none, false, [], false⟩,
 ⟨some 62, .load 3 (.tmp 61), none, false, [], false⟩,
 ⟨some 63, .move (.tmp 2), none, false, [], false⟩,
 ⟨some 64, .fieldAddr 24 (.tmp 4) 3, none, false, [], false⟩,
 ⟨some 65, .load 3 (.tmp 64), none, false, [], false⟩,
 ⟨some 66, .indexAddr 22 (.tmp 63) (.tmp 65), none, false, [], false⟩,
 ⟨some 67, .load 3 (.tmp 66), none, false, [], false⟩,
 ⟨some 68, .call ⟨.value (.func 42), #[.tmp 62, .tmp 67], #[3, 3]⟩, none, true, [false, false, false, true, true], false⟩,
 ⟨some 58, .move (.tmp 2), none, false, [], false⟩,
 ⟨some 59, .fieldAddr 24 (.tmp 4) 2, none, false, [], false⟩,
 ⟨some 60, .load 3 (.tmp 59), none, false, [], true⟩,
 ⟨some 69, .indexAddr 22 (.tmp 58) (.tmp 60), none, false, [], false⟩,
 ⟨none, .store 3 (.tmp 69) (.tmp 68), none, false, [], false⟩])
 (.seq
 (.reg false [
 ⟨some 71, .binOp .eql 3 (.tmp 9) (.const (.int .i64 5)) 3, none, false, [], false⟩,
 ⟨some 70, .assign (.tmp 71), none, false, [], false⟩])
 (.cond (.tmp 70)
 (.reg true [
 ⟨some 75, .move (.tmp 0), none, false, [], false⟩,
 ⟨some 76, .fieldAddr 24 (.tmp 4) 5, none, false, [], false⟩,
 ⟨some 77, .load 3 (.tmp 76), none, false, [], false⟩,
 ⟨some 78, .move (.tmp 2), none, false, [], false⟩,
 ⟨some 79, .fieldAddr 24 (.tmp 4) 3, none, false, [], false⟩,
 ⟨some 80, .load 3 (.tmp 79), none, false, [], false⟩,
 ⟨some 81, .indexAddr 22 (.tmp 78) (.tmp 80), none, false, [], false⟩,
 ⟨some 82, .load 3 (.tmp 81), none, false, [], false⟩,
 ⟨some 83, .call ⟨.value (.func 43), #[.tmp 75, .tmp 77, .tmp 82], #[55, 3, 3]⟩, none, true, [false, false, false, true, true, true, true], false⟩,
 ⟨some 72, .move (.tmp 2), none, false, [], false⟩,
 ⟨some 73, .fieldAddr 24 (.tmp 4) 2, none, false, [], false⟩,
 ⟨some 74, .load 3 (.tmp 73), none, false, [], true⟩,
 ⟨some 84, .nilCheck (.tmp 83), none, false, [], false⟩,
 ⟨some 85, .load 3 (.tmp 84), none, false, [], false⟩,
 ⟨some 86, .indexAddr 22 (.tmp 72) (.tmp 74), none, false, [], false⟩,
 ⟨none, .store 3 (.tmp 86) (.tmp 85), none, false, [], false⟩])
 (.seq
 (.reg false [
 ⟨some 88, .binOp .eql 3 (.tmp 9) (.const (.int .i64 6)) 3, none, false, [], false⟩,
 ⟨some 87, .assign (.tmp 88), none, false, [], false⟩])
 (.cond (.tmp 87)
 (.reg true [
 ⟨some 89, .move (.tmp 0), none, false, [], false⟩,
 ⟨some 90, .fieldAddr 24 (.tmp 4) 5, none, false, [], false⟩,
 ⟨some 91, .load 3 (.tmp 90), none, false, [], false⟩,
 ⟨some 92, .move (.tmp 2), none, false, [], false⟩,
 ⟨some 93, .fieldAddr 24 (.tmp 4) 3, none, false, [], false⟩,
 ⟨some 94, .load 3 (.tmp 93), none, false, [], false⟩,
 ⟨some 95, .indexAddr 22 (.tmp 92) (.tmp 94), none, false, [], false⟩,
 ⟨some 96, .load 3 (.tmp 95), none, false, [], false⟩,
 ⟨some 97, .call ⟨.value (.func 43), #[.tmp 89, .tmp 91, .tmp 96], #[55, 3, 3]⟩, none, true, [false, false, false, false, false, false, false, false, false, false, false, false, false, false, false, true, true, true], false⟩,
 ⟨some 98, .move (.tmp 0), none, false, [], false⟩,
 ⟨some 99, .nilCheck (.tmp 98), none, false, [], false⟩,
 ⟨some 100, .fieldAddr 58 (.tmp 99) 0, none, false, [], false⟩,
 ⟨some 101, .fieldAddr 35 (.tmp 100) 0, none, false, [], false⟩,
 ⟨some 102, .load 32 (.tmp 101), none, false, [], true⟩,
 ⟨some 103, .fieldAddr 24 (.tmp 4) 5, none, false, [], false⟩,
 ⟨some 104, .load 3 (.tmp 103), none, false, [], true⟩,
 ⟨some 105, .indexAddr 32 (.tmp 102) (.tmp 104), none, false, [], false⟩,
 ⟨some 106, .fieldAddr 44 (.tmp 105) 1, none, false, [], false⟩,
 ⟨some 107, .load 3 (.tmp 106), none, false, [], true⟩,
 ⟨some 108, .move (.tmp 2), none, false, [], false⟩,
 ⟨some 109, .fieldAddr 24 (.tmp 4) 4, none, false, [], false⟩,
 ⟨some 110, .load 3 (.tmp 109), none, false, [], true⟩,
 ⟨some 111, .indexAddr 22 (.tmp 108) (.tmp 110), none, false, [], false⟩,
 ⟨some 112, .load 3 (.tmp 111), none, false, [], true⟩,
 ⟨some 113, .call ⟨.value (.func 42), #[.tmp 107, .tmp 112], #[3, 3]⟩, none, false, [true, true], false⟩,
 ⟨some 114, .nilCheck (.tmp 97), none, false, [], false⟩,
 ⟨none, .store 3 (.tmp 114) (.tmp 113), none, false, [], false⟩])
 (.seq
 (.reg false [
 ⟨some 116, .binOp .eql 3 (.tmp 9) (.const (.int .i64 7)) 3, none, false, [], false⟩,
 ⟨some 115, .assign (.tmp 116), none, false, [], false⟩])
 (.cond (.tmp 115)
 (.reg true [
 ⟨some 117, .move (.tmp 2), none, false, [], false⟩,
 ⟨some 118, .fieldAddr 24 (.tmp 4) 2, none, false, [], false⟩,
 ⟨some 119, .load 3 (.tmp 118), none, false, [], false⟩,
 ⟨some 120, .move (.tmp 0), none, false, [], false⟩,
 ⟨some 121, .nilCheck (.tmp 120), none, false, [], false⟩,
 ⟨some 122, .fieldAddr 58 (.tmp 121) 3, none, false, [], false⟩,
 ⟨some 123, .load 56 (.tmp 122), none, false, [], false⟩,
 ⟨some 124, .fieldAddr 24 (.tmp 4) 5, none, false, [], false⟩,
 ⟨some 125, .load 3 (.tmp 124), none, false, [], false⟩,
 ⟨some 126, .indexAddr 56 (.tmp 123) (.tmp 125), none, false, [], false⟩,
 ⟨some 127, .load 22 (.tmp 126), none, false, [], false⟩,
 ⟨some 128, .indexAddr 22 (.tmp 127) (.const (.int .i64 0)), none, false, [], false⟩,
 ⟨some 129, .load 3 (.tmp 128), none, false, [], false⟩,
 ⟨some 130, .indexAddr 22 (.tmp 117) (.tmp 119), none, false, [], false⟩,
 ⟨none, .store 3 (.tmp 130) (.tmp 129), none, false, [], false⟩])
 (.seq
 (.reg false [
 ⟨some 132, .binOp .eql 3 (.tmp 9) (.const (.int .i64 8)) 3, none, false, [], false⟩,
 ⟨some 131, .assign (.tmp 132), none, false, [], false⟩])
 (.cond (.tmp 131)
 (.reg true [
 ⟨some 133, .move (.tmp 0), none, false, [], false⟩,
 ⟨some 134, .nilCheck (.tmp 133), none, false, [], false⟩,
 ⟨some 135, .fieldAddr 58 (.tmp 134) 3, none, false, [], false⟩,
 ⟨some 136, .load 56 (.tmp 135), none, false, [], false⟩,
 ⟨some 137, .fieldAddr 24 (.tmp 4) 5, none, false, [], false⟩,
 ⟨some 138, .load 3 (.tmp 137), none, false, [], false⟩,
 ⟨some 139, .indexAddr 56 (.tmp 136) (.tmp 138), none, false, [], false⟩,
 ⟨some 140, .load 22 (.tmp 139), none, false, [], false⟩,
 ⟨some 141, .move (.tmp 2), none, false, [], false⟩,
 ⟨some 142, .fieldAddr 24 (.tmp 4) 3, none, false, [], false⟩,
 ⟨some 143, .load 3 (.tmp 142), none, false, [], false⟩,
 ⟨some 144, .indexAddr 22 (.tmp 141) (.tmp 143), none, false, [], false⟩,
 ⟨some 145, .load 3 (.tmp 144), none, false, [], false⟩,
 ⟨some 146, .indexAddr 22 (.tmp 140) (.const (.int .i64 0)), none, false, [], false⟩,
 ⟨none, .store 3 (.tmp 146) (.tmp 145), none, false, [], false⟩])
 (.seq
 (.reg false [
 ⟨some 148, .binOp .eql 3 (.tmp 9) (.const (.int .i64 10)) 3, none, false, [], false⟩,
 ⟨some 147, .assign (.tmp 148), none, false, [], false⟩])
 (.cond (.tmp 147)
 (.reg true [
 ⟨some 152, .move (.tmp 0), none, false, [], false⟩,
 ⟨some 153, .call ⟨.value (.func 44), #[.tmp 152], #[55]⟩, none, true, [false, false, false, true, true], false⟩,
 ⟨some 149, .move (.tmp 2), none, false, [], false⟩,
 ⟨some 150, .fieldAddr 24 (.tmp 4) 2, none, false, [], false⟩,
 ⟨some 151, .load 3 (.tmp 150), none, false, [], true⟩,
 ⟨some 154, .indexAddr 22 (.tmp 149) (.tmp 151), none, false, [], false⟩,
 ⟨none, .store 3 (.tmp 154) (.tmp 153), none, false, [], false⟩])
 (.seq
 (.reg false [
 ⟨some 156, .binOp .eql 3 (.tmp 9) (.const (.int .i64 11)) 3, none, false, [], false⟩,
 ⟨some 155, .assign (.tmp 156), none, false, [], false⟩])
 (.cond (.tmp 155)
 (.reg true [
 ⟨some 163, .move (.tmp 2), none, false, [], false⟩,
 ⟨some 164, .fieldAddr 24 (.tmp 4) 3, none, false, [], false⟩,
 ⟨some 165, .load 3 (.tmp 164), none, false, [], false⟩,
 ⟨some 166, .indexAddr 22 (.tmp 163) (.tmp 165), none, false, [], false⟩,
 ⟨some 167, .load 3 (.tmp 166), none, false, [], false⟩,
 ⟨some 168, .buildSlice 22 1 #[(0, .tmp 167)], none, false, [], false⟩,
 ⟨some 158, .move (.tmp 0), none, false, [], false⟩,
 ⟨some 159, .nilCheck (.tmp 158), none, false, [], false⟩,
 ⟨some 160, .fieldAddr 58 (.tmp 159) 4, none, false, [], false⟩,
 ⟨some 161, .fieldAddr 26 (.tmp 160) 0, none, false, [], false⟩,
 ⟨some 162, .load 22 (.tmp 161), none, false, [], false⟩,
 ⟨some 169, .call ⟨.builtin .append, #[.tmp 162, .tmp 168], #[22, 22]⟩, none, false, [false, true, true, true, true], false⟩,
 ⟨some 157, .move (.tmp 0), none, false, [], false⟩,
 ⟨some 170, .nilCheck (.tmp 157), none, false, [], false⟩,
 ⟨some 171, .fieldAddr 58 (.tmp 170) 4, none, false, [], false⟩,
 ⟨some 172, .fieldAddr 26 (.tmp 171) 0, none, false, [], false⟩,
 ⟨none, .store 22 (.tmp 172) (.tmp 169), none, false, [], false⟩])
 .skip)))))))))))))))))))))))
noncomputable def fi29 : FI := ⟨c29, 173, [], .plain⟩
noncomputable def c30 : XC :=
 (.seq
 (.reg false [
 ⟨some 4, .assign (.const (.int .i64 0)), none, false, [], false⟩])
 (.seq
 (.seq
 (.reg false [
 ⟨some 6, .move (.tmp 0), none, false, [], false⟩,
 ⟨some 7, .call ⟨.builtin .len, #[.tmp 6], #[33]⟩, none, false, [], false⟩,
 ⟨some 8, .move (.const (.int .i64 0)), none, false, [], false⟩])
 (.block 0
 (.loop
 (.seq
 (.reg false [
 ⟨some 9, .binOp .lss 3 (.tmp 8) (.tmp 7) 3, none, false, [], false⟩])
 (.seq
 (.cond (.tmp 9)
 .skip
 (.exit 0))
 (.seq
 (.block 1
 (.seq
 (.reg false [
 ⟨some 10, .move (.tmp 8), none, false, [], false⟩,
 ⟨some 5, .assign (.tmp 10), none, false, [], false⟩])
 (.seq
 (.reg false [
 ⟨some 11, .move (.tmp 1), none, false, [], false⟩,
 ⟨some 12, .move (.tmp 0), none, false, [], false⟩,
 ⟨some 13, .move (.tmp 5), none, false, [], false⟩,
 ⟨some 14, .indexAddr 33 (.tmp 12) (.tmp 13), none, false, [], false⟩,
 ⟨some 15, .load 48 (.tmp 14), none, false, [], false⟩,
 ⟨some 16, .call ⟨.value (.tmp 11), #[.tmp 15], #[48]⟩, none, false, [], false⟩])
 (.cond (.tmp 16)
 (.seq
 (.reg false [
 ⟨some 17, .move (.tmp 5), none, false, [], false⟩,
 ⟨some 4, .assign (.tmp 17), none, false, [], false⟩])
 .ret)
 .skip))))
 (.reg false [
 ⟨some 18, .binOp .add 3 (.tmp 8) (.const (.int .i64 1)) 3, none, false, [], false⟩,
 ⟨some 8, .move (.tmp 18), none, false, [], false⟩])))))))
 (.seq
 (.reg false [
 ⟨some 4, .assign (.const (.int .i64 (-1))), none, false, [], false⟩])
 .ret)))
noncomputable def fi30 : FI := ⟨c30, 19, [.tmp 4], .plain⟩
noncomputable def c31 : XC :=
 (.seq
 (.reg false [
 ⟨some 1, .box 48 (.tmp 0), none, false, [], false⟩,
 ⟨some 2, .assign (.const (.bool false)), none, false, [], false⟩])
 (.seq
 (.reg false [
 ⟨some 3, .fieldAddr 48 (.tmp 1) 0, none, false, [], false⟩,
 ⟨some 4, .load 9 (.tmp 3), none, false, [], false⟩,
 ⟨some 5, .binOp .eql 9 (.tmp 4) (.const (.string ⟨#[109, 97, 105, 110]⟩)) 9, none, false, [], false⟩,
 ⟨some 2, .assign (.tmp 5), none, false, [], false⟩])
 .ret))
noncomputable def fi31 : FI := ⟨c31, 6, [.tmp 2], .plain⟩
noncomputable def c32 : XC :=
 (.seq
 (.reg false [
 ⟨some 4, .assign (.const (.bool false)), none, false, [], false⟩])
 (.seq
 (.reg false [
 ⟨some 5, .move (.tmp 0), none, false, [], false⟩,
 ⟨some 6, .move (.tmp 1), none, false, [], false⟩,
 ⟨some 7, .call ⟨.value (.func 45), #[.tmp 5, .tmp 6], #[22, 63]⟩, none, false, [], false⟩,
 ⟨some 8, .binOp .geq 3 (.tmp 7) (.const (.int .i64 0)) 3, none, false, [], false⟩,
 ⟨some 4, .assign (.tmp 8), none, false, [], false⟩])
 .ret))
noncomputable def fi32 : FI := ⟨c32, 9, [.tmp 4], .plain⟩
noncomputable def c33 : XC :=
 (.seq
 (.reg false [
 ⟨some 2, .assign (.const (.bool false)), none, false, [], false⟩])
 (.seq
 (.reg false [
 ⟨some 3, .move (.tmp 0), none, false, [], false⟩,
 ⟨some 4, .call ⟨.value (.func 21), #[.tmp 3], #[3]⟩, none, false, [], false⟩,
 ⟨some 5, .unOp .not 4 (.tmp 4), none, false, [], false⟩,
 ⟨some 2, .assign (.tmp 5), none, false, [], false⟩])
 .ret))
noncomputable def fi33 : FI := ⟨c33, 6, [.tmp 2], .plain⟩
noncomputable def c34 : XC :=
 (.seq
 (.reg false [
 ⟨some 2, .box 65 (.tmp 0), none, false, [], false⟩,
 ⟨some 3, .box 24 (.tmp 1), none, false, [], false⟩,
 ⟨some 4, .assign (.const (.int .i64 0)), none, false, [], false⟩])
 (.seq
 (.block 0
 (.seq
 (.reg false [
 ⟨some 6, .load 24 (.tmp 3), none, false, [], false⟩,
 ⟨some 7, .call ⟨.value (.func 46), #[.tmp 6], #[24]⟩, none, false, [], false⟩,
 ⟨some 8, .unOp .not 4 (.tmp 7), none, false, [], false⟩,
 ⟨some 5, .assign (.tmp 8), none, false, [], false⟩])
 (.cond (.tmp 5)
 (.seq
 (.reg false [
 ⟨some 4, .assign (.const (.int .i64 2)), none, false, [], false⟩])
 .ret)
 (.seq
 (.reg false [
 ⟨some 10, .load 65 (.tmp 2), none, false, [], false⟩,
 ⟨some 11, .load 24 (.tmp 3), none, false, [], false⟩,
 ⟨some 12, .call ⟨.value (.func 47), #[.tmp 10, .tmp 11], #[65, 24]⟩, none, false, [], false⟩,
 ⟨some 13, .unOp .not 4 (.tmp 12), none, false, [], false⟩,
 ⟨some 9, .assign (.tmp 13), none, false, [], false⟩])
 (.cond (.tmp 9)
 (.seq
 (.reg false [
 ⟨some 4, .assign (.const (.int .i64 11)), none, false, [], false⟩])
 .ret)
 (.seq
 (.reg true [
 ⟨some 15, .fieldAddr 24 (.tmp 3) 0, none, false, [], false⟩,
 ⟨some 16, .load 3 (.tmp 15), none, false, [], false⟩,
 ⟨some 17, .binOp .eql 3 (.tmp 16) (.const (.int .i64 9)) 3, none, false, [], false⟩,
 ⟨some 18, .move (.tmp 17), none, false, [], false⟩,
 ⟨some 19, .fieldAddr 24 (.tmp 3) 7, some (some 18, true), false, [], false⟩,
 ⟨some 20, .load 22 (.tmp 19), some (some 18, true), false, [], false⟩,
 ⟨some 21, .call ⟨.builtin .len, #[.tmp 20], #[22]⟩, some (some 18, true), false, [], false⟩,
 ⟨some 22, .fieldAddr 65 (.tmp 2) 0, some (some 18, true), false, [], false⟩,
 ⟨some 23, .fieldAddr 35 (.tmp 22) 1, some (some 18, true), false, [], false⟩,
 ⟨some 24, .load 33 (.tmp 23), some (some 18, true), false, [], false⟩,
 ⟨some 25, .fieldAddr 24 (.tmp 3) 5, some (some 18, true), false, [], false⟩,
 ⟨some 26, .load 3 (.tmp 25), some (some 18, true), false, [], false⟩,
 ⟨some 27, .indexAddr 33 (.tmp 24) (.tmp 26), some (some 18, true), false, [], false⟩,
 ⟨some 28, .fieldAddr 48 (.tmp 27) 2, some (some 18, true), false, [], false⟩,
 ⟨some 29, .load 3 (.tmp 28), some (some 18, true), false, [], false⟩,
 ⟨some 30, .binOp .neq 3 (.tmp 21) (.tmp 29) 3, some (some 18, true), false, [], false⟩,
 ⟨some 31, .pick (.tmp 18) (.tmp 30) (.const (.bool false)), none, false, [], false⟩,
 ⟨some 14, .assign (.tmp 31), none, false, [], false⟩])
 (.cond (.tmp 14)
 (.seq
 (.reg false [
 ⟨some 4, .assign (.const (.int .i64 7)), none, false, [], false⟩])
 .ret)
 (.seq
 (.reg false [
 ⟨some 33, .load 65 (.tmp 2), none, false, [], false⟩,
 ⟨some 34, .load 24 (.tmp 3), none, false, [], false⟩,
 ⟨some 35, .call ⟨.value (.func 48), #[.tmp 33, .tmp 34], #[65, 24]⟩, none, false, [], false⟩,
 ⟨some 36, .unOp .not 4 (.tmp 35), none, false, [], false⟩,
 ⟨some 32, .assign (.tmp 36), none, false, [], false⟩])
 (.cond (.tmp 32)
 (.seq
 (.reg false [
 ⟨some 4, .assign (.const (.int .i64 6)), none, false, [], false⟩])
 .ret)
 .skip)))))))))
 (.seq
 (.reg false [
 ⟨some 4, .assign (.const (.int .i64 0)), none, false, [], false⟩])
 .ret)))
noncomputable def fi34 : FI := ⟨c34, 37, [.tmp 4], .plain⟩
noncomputable def c35 : XC :=
 (.seq
 (.reg false [
 ⟨some 2, .box 65 (.tmp 0), none, false, [], false⟩,
 ⟨some 3, .box 38 (.tmp 1), none, false, [], false⟩,
 ⟨some 4, .assign (.const (.int .i64 0)), none, false, [], false⟩])
 (.seq
 (.reg true [
 ⟨some 9, .fieldAddr 65 (.tmp 2) 1, none, false, [], false⟩,
 ⟨some 10, .fieldAddr 48 (.tmp 9) 4, none, false, [], false⟩,
 ⟨some 11, .load 41 (.tmp 10), none, false, [], false⟩,
 ⟨some 12, .call ⟨.builtin .len, #[.tmp 11], #[41]⟩, none, false, [], false⟩,
 ⟨some 13, .fieldAddr 65 (.tmp 2) 1, none, false, [], false⟩,
 ⟨some 14, .fieldAddr 48 (.tmp 13) 3, none, false, [], false⟩,
 ⟨some 15, .load 22 (.tmp 14), none, false, [], false⟩,
 ⟨some 16, .call ⟨.builtin .len, #[.tmp 15], #[22]⟩, none, false, [], false⟩,
 ⟨some 5, .assign (.tmp 12), none, false, [], false⟩,
 ⟨some 6, .assign (.tmp 16), none, false, [], false⟩])
 (.seq
 (.reg false [
 ⟨some 7, .assign (.const (.bool true)), none, false, [], false⟩,
 ⟨some 8, .assign (.const (.bool true)), none, false, [], false⟩])
 (.seq
 (.seq
 (.reg false [
 ⟨some 17, .fieldAddr 38 (.tmp 3) 0, none, false, [], false⟩,
 ⟨some 18, .load 3 (.tmp 17), none, false, [], false⟩])
 (.block 0
 (.seq
 (.reg false [
 ⟨some 20, .binOp .eql 3 (.tmp 18) (.const (.int .i64 1)) 3, none, false, [], false⟩,
 ⟨some 19, .assign (.tmp 20), none, false, [], false⟩])
 (.cond (.tmp 19)
 (.reg false [
 ⟨some 21, .fieldAddr 38 (.tmp 3) 2, none, false, [], false⟩,
 ⟨some 22, .load 3 (.tmp 21), none, false, [], false⟩,
 ⟨some 23, .move (.tmp 5), none, false, [], false⟩,
 ⟨some 24, .call ⟨.value (.func 49), #[.tmp 22, .tmp 23], #[3, 3]⟩, none, false, [], false⟩,
 ⟨some 7, .assign (.tmp 24), none, false, [], false⟩])
 (.seq
 (.reg false [
 ⟨some 26, .binOp .eql 3 (.tmp 18) (.const (.int .i64 2)) 3, none, false, [], false⟩,
 ⟨some 25, .assign (.tmp 26), none, false, [], false⟩])
 (.cond (.tmp 25)
 (.seq
 (.reg false [
 ⟨some 27, .fieldAddr 38 (.tmp 3) 2, none, false, [], false⟩,
 ⟨some 28, .load 3 (.tmp 27), none, false, [], false⟩,
 ⟨some 29, .move (.tmp 5), none, false, [], false⟩,
 ⟨some 30, .call ⟨.value (.func 49), #[.tmp 28, .tmp 29], #[3, 3]⟩, none, false, [], false⟩,
 ⟨some 31, .move (.tmp 30), none, false, [], false⟩,
 ⟨some 32, .fieldAddr 38 (.tmp 3) 3, some (some 31, true), false, [], false⟩,
 ⟨some 33, .load 3 (.tmp 32), some (some 31, true), false, [], false⟩,
 ⟨some 34, .move (.tmp 5), some (some 31, true), false, [], false⟩,
 ⟨some 35, .call ⟨.value (.func 49), #[.tmp 33, .tmp 34], #[3, 3]⟩, some (some 31, true), false, [], false⟩,
 ⟨some 36, .pick (.tmp 31) (.tmp 35) (.const (.bool false)), none, false, [], false⟩,
 ⟨some 37, .move (.tmp 36), none, false, [], false⟩,
 ⟨some 38, .fieldAddr 38 (.tmp 3) 1, some (some 37, true), false, [], false⟩,
 ⟨some 39, .load 3 (.tmp 38), some (some 37, true), false, [], false⟩,
 ⟨some 40, .move (.tmp 6), some (some 37, true), false, [], false⟩,
 ⟨some 41, .call ⟨.value (.func 49), #[.tmp 39, .tmp 40], #[3, 3]⟩, some (some 37, true), false, [], false⟩,
 ⟨some 42, .pick (.tmp 37) (.tmp 41) (.const (.bool false)), none, false, [], false⟩,
 ⟨some 7, .assign (.tmp 42), none, false, [], false⟩])
 (.reg false [
 ⟨some 43, .move (.tmp 7), none, false, [], false⟩,
 ⟨some 44, .move (.tmp 43), none, false, [], false⟩,
 ⟨some 45, .fieldAddr 65 (.tmp 2) 1, some (some 44, true), false, [], false⟩,
 ⟨some 46, .fieldAddr 48 (.tmp 45) 3, some (some 44, true), false, [], false⟩,
 ⟨some 47, .load 22 (.tmp 46), some (some 44, true), false, [], false⟩,
 ⟨some 48, .fieldAddr 38 (.tmp 3) 1, some (some 44, true), false, [], false⟩,
 ⟨some 49, .load 3 (.tmp 48), some (some 44, true), false, [], false⟩,
 ⟨some 50, .indexAddr 22 (.tmp 47) (.tmp 49), some (some 44, true), false, [], false⟩,
 ⟨some 51, .load 3 (.tmp 50), some (some 44, true), false, [], false⟩,
 ⟨some 52, .binOp .eql 3 (.tmp 51) (.const (.int .i64 1)) 3, some (some 44, true), false, [], false⟩,
 ⟨some 53, .pick (.tmp 44) (.tmp 52) (.const (.bool false)), none, false, [], false⟩,
 ⟨some 8, .assign (.tmp 53), none, false, [], false⟩]))
 (.seq
 (.reg false [
 ⟨some 55, .binOp .eql 3 (.tmp 18) (.const (.int .i64 3)) 3, none, false, [], false⟩,
 ⟨some 54, .assign (.tmp 55), none, false, [], false⟩])
 (.cond (.tmp 54)
 (.seq
 (.reg false [
 ⟨some 56, .fieldAddr 38 (.tmp 3) 1, none, false, [], false⟩,
 ⟨some 57, .load 3 (.tmp 56), none, false, [], false⟩,
 ⟨some 58, .binOp .lss 3 (.tmp 57) (.const (.int .i64 0)) 3, none, false, [], false⟩,
 ⟨some 59, .move (.tmp 58), none, false, [], false⟩,
 ⟨some 60, .fieldAddr 38 (.tmp 3) 1, some (some 59, false), false, [], false⟩,
 ⟨some 61, .load 3 (.tmp 60), some (some 59, false), false, [], false⟩,
 ⟨some 62, .move (.tmp 6), some (some 59, false), false, [], false⟩,
 ⟨some 63, .call ⟨.value (.func 49), #[.tmp 61, .tmp 62], #[3, 3]⟩, some (some 59, false), false, [], false⟩,
 ⟨some 64, .pick (.tmp 59) (.const (.bool true)) (.tmp 63), none, false, [], false⟩,
 ⟨some 7, .assign (.tmp 64), none, false, [], false⟩])
 (.reg true [
 ⟨some 65, .move (.tmp 7), none, false, [], false⟩,
 ⟨some 66, .move (.tmp 65), none, false, [], false⟩,
 ⟨some 67, .fieldAddr 38 (.tmp 3) 1, some (some 66, true), false, [], false⟩,
 ⟨some 68, .load 3 (.tmp 67), some (some 66, true), false, [], false⟩,
 ⟨some 69, .binOp .lss 3 (.tmp 68) (.const (.int .i64 0)) 3, some (some 66, true), false, [], false⟩,
 ⟨some 70, .fieldAddr 65 (.tmp 2) 1, some (some 66, true), false, [], false⟩,
 ⟨some 71, .fieldAddr 48 (.tmp 70) 1, some (some 66, true), false, [], false⟩,
 ⟨some 72, .load 3 (.tmp 71), some (some 66, true), false, [], false⟩,
 ⟨some 73, .binOp .eql 3 (.tmp 72) (.const (.int .i64 0)) 3, some (some 66, true), false, [], false⟩,
 ⟨some 74, .binOp .eql 4 (.tmp 69) (.tmp 73) 4, some (some 66, true), false, [], false⟩,
 ⟨some 75, .pick (.tmp 66) (.tmp 74) (.const (.bool false)), none, false, [], false⟩,
 ⟨some 76, .move (.tmp 75), none, false, [], false⟩,
 ⟨some 77, .fieldAddr 38 (.tmp 3) 1, some (some 76, true), false, [], false⟩,
 ⟨some 78, .load 3 (.tmp 77), some (some 76, true), false, [], false⟩,
 ⟨some 79, .binOp .lss 3 (.tmp 78) (.const (.int .i64 0)) 3, some (some 76, true), false, [], false⟩,
 ⟨some 80, .move (.tmp 79), some (some 76, true), false, [], false⟩,
 ⟨some 81, .fieldAddr 65 (.tmp 2) 1, some (some 80, false), false, [], false⟩,
 ⟨some 82, .fieldAddr 48 (.tmp 81) 3, some (some 80, false), false, [], false⟩,
 ⟨some 83, .load 22 (.tmp 82), some (some 80, false), false, [], false⟩,
 ⟨some 84, .fieldAddr 38 (.tmp 3) 1, some (some 80, false), false, [], false⟩,
 ⟨some 85, .load 3 (.tmp 84), some (some 80, false), false, [], false⟩,
 ⟨some 86, .indexAddr 22 (.tmp 83) (.tmp 85), some (some 80, false), false, [], false⟩,
 ⟨some 87, .load 3 (.tmp 86), some (some 80, false), false, [], false⟩,
 ⟨some 88, .fieldAddr 65 (.tmp 2) 1, some (some 80, false), false, [], false⟩,
 ⟨some 89, .fieldAddr 48 (.tmp 88) 1, some (some 80, false), false, [], false⟩,
 ⟨some 90, .load 3 (.tmp 89), some (some 80, false), false, [], false⟩,
 ⟨some 91, .binOp .eql 3 (.tmp 87) (.tmp 90) 3, some (some 80, false), false, [], false⟩,
 ⟨some 92, .pick (.tmp 80) (.const (.bool true)) (.tmp 91), some (some 76, true), false, [], false⟩,
 ⟨some 93, .pick (.tmp 76) (.tmp 92) (.const (.bool false)), none, false, [], false⟩,
 ⟨some 8, .assign (.tmp 93), none, false, [], false⟩]))
 (.seq
 (.reg false [
 ⟨some 4, .assign (.const (.int .i64 2)), none, false, [], false⟩])
 .ret)))))))))
 (.seq
 (.block 1
 (.seq
 (.reg false [
 ⟨some 95, .move (.tmp 7), none, false, [], false⟩,
 ⟨some 96, .unOp .not 4 (.tmp 95), none, false, [], false⟩,
 ⟨some 94, .assign (.tmp 96), none, false, [], false⟩])
 (.cond (.tmp 94)
 (.seq
 (.reg false [
 ⟨some 4, .assign (.const (.int .i64 11)), none, false, [], false⟩])
 .ret)
 (.seq
 (.reg false [
 ⟨some 98, .move (.tmp 8), none, false, [], false⟩,
 ⟨some 99, .unOp .not 4 (.tmp 98), none, false, [], false⟩,
 ⟨some 97, .assign (.tmp 99), none, false, [], false⟩])
 (.cond (.tmp 97)
 (.seq
 (.reg false [
 ⟨some 4, .assign (.const (.int .i64 6)), none, false, [], false⟩])
 .ret)
 .skip)))))
 (.seq
 (.reg false [
 ⟨some 4, .assign (.const (.int .i64 0)), none, false, [], false⟩])
 .ret))))))
noncomputable def fi35 : FI := ⟨c35, 100, [.tmp 4], .plain⟩
noncomputable def c40 : XC :=
 (.seq
 (.reg false [
 ⟨some 2, .assign (.const (.slice none 0 0)), none, false, [], false⟩])
 (.seq
 (.seq
 (.reg false [
 ⟨some 3, .move (.tmp 0), none, false, [], false⟩,
 ⟨some 4, .binOp .eql 22 (.tmp 3) (.const (.slice none 0 0)) 22, none, false, [], false⟩])
 (.cond (.tmp 4)
 (.seq
 (.reg false [
 ⟨some 2, .assign (.const (.slice none 0 0)), none, false, [], false⟩])
 .ret)
 .skip))
 (.seq
 (.reg false [
 ⟨some 5, .buildSlice 22 0 #[], none, false, [], false⟩,
 ⟨some 6, .move (.tmp 0), none, false, [], false⟩,
 ⟨some 7, .call ⟨.builtin .append, #[.tmp 5, .tmp 6], #[22, 22]⟩, none, false, [], false⟩,
 ⟨some 2, .assign (.tmp 7), none, false, [], false⟩])
 .ret)))
noncomputable def fi40 : FI := ⟨c40, 8, [.tmp 2], .plain⟩
noncomputable def c41 : XC :=
 (.seq
 (.reg false [
 ⟨some 8, .assign (.const (.int .i64 0)), none, false, [], false⟩,
 ⟨some 9, .assign (.const (.int .i64 0)), none, false, [], false⟩])
 (.seq
 (.seq
 (.reg false [
 ⟨some 10, .move (.tmp 0), none, false, [], false⟩])
 (.block 0
 (.seq
 (.reg false [
 ⟨some 12, .binOp .eql 3 (.tmp 10) (.const (.int .i64 1)) 3, none, false, [], false⟩,
 ⟨some 11, .assign (.tmp 12), none, false, [], false⟩])
 (.cond (.tmp 11)
 (.seq
 (.reg false [
 ⟨some 13, .move (.tmp 1), none, false, [], false⟩,
 ⟨some 14, .move (.tmp 2), none, false, [], false⟩,
 ⟨some 15, .convert 3 21 (.tmp 14), none, false, [], false⟩,
 ⟨some 16, .move (.tmp 3), none, false, [], false⟩,
 ⟨some 17, .convert 3 21 (.tmp 16), none, false, [], false⟩,
 ⟨some 18, .call ⟨.value (.func 57), #[.tmp 13, .tmp 15, .tmp 17, .const (.int .i64 32)], #[9, 21, 21, 3]⟩, none, false, [], false⟩,
 ⟨some 19, .extract (.tmp 18) 0, none, false, [], false⟩,
 ⟨some 20, .extract (.tmp 18) 1, none, false, [], false⟩,
 ⟨some 8, .assign (.tmp 19), none, false, [], false⟩,
 ⟨some 9, .assign (.tmp 20), none, false, [], false⟩])
 .ret)
 (.seq
 (.reg false [
 ⟨some 22, .binOp .eql 3 (.tmp 10) (.const (.int .i64 2)) 3, none, false, [], false⟩,
 ⟨some 21, .assign (.tmp 22), none, false, [], false⟩])
 (.cond (.tmp 21)
 (.seq
 (.reg false [
 ⟨some 23, .move (.tmp 1), none, false, [], false⟩,
 ⟨some 24, .move (.tmp 2), none, false, [], false⟩,
 ⟨some 25, .move (.tmp 3), none, false, [], false⟩,
 ⟨some 26, .call ⟨.value (.func 58), #[.tmp 23, .tmp 24, .tmp 25, .const (.int .i64 64)], #[9, 2, 2, 3]⟩, none, false, [], false⟩,
 ⟨some 27, .extract (.tmp 26) 0, none, false, [], false⟩,
 ⟨some 28, .extract (.tmp 26) 1, none, false, [], false⟩,
 ⟨some 8, .assign (.tmp 27), none, false, [], false⟩,
 ⟨some 9, .assign (.tmp 28), none, false, [], false⟩])
 .ret)
 .skip))))))
 (.seq
 (.reg false [
 ⟨some 8, .assign (.const (.int .i64 0)), none, false, [], false⟩,
 ⟨some 9, .assign (.const (.int .i64 0)), none, false, [], false⟩])
 .ret)))
noncomputable def fi41 : FI := ⟨c41, 29, [.tmp 8, .tmp 9], .plain⟩
noncomputable def c42 : XC :=
 (.seq
 (.reg false [
 ⟨some 4, .assign (.const (.int .i64 0)), none, false, [], false⟩])
 (.seq
 (.seq
 (.reg false [
 ⟨some 5, .move (.tmp 0), none, false, [], false⟩])
 (.block 0
 (.seq
 (.reg false [
 ⟨some 7, .binOp .eql 3 (.tmp 5) (.const (.int .i64 3)) 3, none, false, [], false⟩,
 ⟨some 6, .assign (.tmp 7), none, false, [], false⟩])
 (.cond (.tmp 6)
 (.seq
 (.reg false [
 ⟨some 8, .move (.tmp 1), none, false, [], false⟩,
 ⟨some 9, .convert 3 107 (.tmp 8), none, false, [], false⟩,
 ⟨some 10, .convert 107 3 (.tmp 9), none, false, [], false⟩,
 ⟨some 4, .assign (.tmp 10), none, false, [], false⟩])
 .ret)
 (.seq
 (.reg false [
 ⟨some 12, .binOp .eql 3 (.tmp 5) (.const (.int .i64 1)) 3, none, false, [], false⟩,
 ⟨some 11, .assign (.tmp 12), none, false, [], false⟩])
 (.cond (.tmp 11)
 (.seq
 (.reg false [
 ⟨some 13, .move (.tmp 1), none, false, [], false⟩,
 ⟨some 14, .convert 3 21 (.tmp 13), none, false, [], false⟩,
 ⟨some 15, .convert 21 3 (.tmp 14), none, false, [], false⟩,
 ⟨some 4, .assign (.tmp 15), none, false, [], false⟩])
 .ret)
 (.seq
 (.reg false [
 ⟨some 17, .binOp .eql 3 (.tmp 5) (.const (.int .i64 2)) 3, none, false, [], false⟩,
 ⟨some 16, .assign (.tmp 17), none, false, [], false⟩])
 (.cond (.tmp 16)
 (.seq
 (.reg false [
 ⟨some 18, .move (.tmp 1), none, false, [], false⟩,
 ⟨some 4, .assign (.tmp 18), none, false, [], false⟩])
 .ret)
 .skip))))))))
 (.seq
 (.reg false [
 ⟨some 4, .assign (.const (.int .i64 0)), none, false, [], false⟩])
 .ret)))
noncomputable def fi42 : FI := ⟨c42, 19, [.tmp 4], .plain⟩
noncomputable def c43 : XC :=
 (.seq
 (.reg false [
 ⟨some 6, .assign (.const (.pointer none)), none, false, [], false⟩])
 (.seq
 (.seq
 (.reg false [
 ⟨some 7, .move (.tmp 2), none, false, [], false⟩,
 ⟨some 8, .move (.tmp 0), none, false, [], false⟩,
 ⟨some 9, .nilCheck (.tmp 8), none, false, [], false⟩,
 ⟨some 10, .fieldAddr 58 (.tmp 9) 0, none, false, [], false⟩,
 ⟨some 11, .fieldAddr 35 (.tmp 10) 0, none, false, [], false⟩,
 ⟨some 12, .load 32 (.tmp 11), none, false, [], false⟩,
 ⟨some 13, .move (.tmp 1), none, false, [], false⟩,
 ⟨some 14, .indexAddr 32 (.tmp 12) (.tmp 13), none, false, [], false⟩,
 ⟨some 15, .fieldAddr 44 (.tmp 14) 2, none, false, [], false⟩,
 ⟨some 16, .load 3 (.tmp 15), none, false, [], false⟩,
 ⟨some 17, .call ⟨.value (.func 49), #[.tmp 7, .tmp 16], #[3, 3]⟩, none, false, [], false⟩,
 ⟨some 18, .unOp .not 4 (.tmp 17), none, false, [], false⟩])
 (.cond (.tmp 18)
 (.reg false [
 ⟨some 19, .call ⟨.value (.func 26), #[.const (.int .i64 3)], #[3]⟩, none, false, [], false⟩])
 .skip))
 (.seq
 (.reg false [
 ⟨some 20, .move (.tmp 0), none, false, [], false⟩,
 ⟨some 21, .nilCheck (.tmp 20), none, false, [], false⟩,
 ⟨some 22, .fieldAddr 58 (.tmp 21) 3, none, false, [], false⟩,
 ⟨some 23, .load 56 (.tmp 22), none, false, [], false⟩,
 ⟨some 24, .move (.tmp 1), none, false, [], false⟩,
 ⟨some 25, .indexAddr 56 (.tmp 23) (.tmp 24), none, false, [], false⟩,
 ⟨some 26, .load 22 (.tmp 25), none, false, [], false⟩,
 ⟨some 27, .move (.tmp 2), none, false, [], false⟩,
 ⟨some 28, .indexAddr 22 (.tmp 26) (.tmp 27), none, false, [], false⟩,
 ⟨some 6, .assign (.tmp 28), none, false, [], false⟩])
 .ret)))
noncomputable def fi43 : FI := ⟨c43, 29, [.tmp 6], .plain⟩
noncomputable def c44 : XC :=
 (.seq
 (.reg false [
 ⟨some 2, .assign (.const (.int .i64 0)), none, false, [], false⟩])
 (.seq
 (.seq
 (.reg false [
 ⟨some 4, .move (.tmp 0), none, false, [], false⟩,
 ⟨some 5, .nilCheck (.tmp 4), none, false, [], false⟩,
 ⟨some 6, .fieldAddr 58 (.tmp 5) 1, none, false, [], false⟩,
 ⟨some 7, .load 22 (.tmp 6), none, false, [], false⟩,
 ⟨some 8, .call ⟨.builtin .len, #[.tmp 7], #[22]⟩, none, false, [], false⟩,
 ⟨some 9, .binOp .eql 3 (.tmp 8) (.const (.int .i64 0)) 3, none, false, [], false⟩])
 (.cond (.tmp 9)
 (.seq
 (.reg false [
 ⟨some 2, .assign (.const (.int .i64 0)), none, false, [], false⟩])
 .ret)
 .skip))
 (.seq
 (.reg false [
 ⟨some 10, .move (.tmp 0), none, false, [], false⟩,
 ⟨some 11, .nilCheck (.tmp 10), none, false, [], false⟩,
 ⟨some 12, .fieldAddr 58 (.tmp 11) 1, none, false, [], false⟩,
 ⟨some 13, .load 22 (.tmp 12), none, false, [], false⟩,
 ⟨some 14, .indexAddr 22 (.tmp 13) (.const (.int .i64 0)), none, false, [], false⟩,
 ⟨some 15, .load 3 (.tmp 14), none, false, [], false⟩,
 ⟨some 3, .assign (.tmp 15), none, false, [], false⟩])
 (.seq
 (.reg false [
 ⟨some 16, .move (.tmp 0), none, false, [], false⟩,
 ⟨some 17, .move (.tmp 0), none, false, [], false⟩,
 ⟨some 18, .nilCheck (.tmp 17), none, false, [], false⟩,
 ⟨some 19, .fieldAddr 58 (.tmp 18) 1, none, false, [], false⟩,
 ⟨some 20, .load 22 (.tmp 19), none, false, [], false⟩,
 ⟨some 21, .slice 22 (.tmp 20) (some (.const (.int .i64 1))) none none, none, false, [], false⟩,
 ⟨some 22, .nilCheck (.tmp 16), none, false, [], false⟩,
 ⟨some 23, .fieldAddr 58 (.tmp 22) 1, none, false, [], false⟩,
 ⟨none, .store 22 (.tmp 23) (.tmp 21), none, false, [], false⟩])
 (.seq
 (.reg false [
 ⟨some 24, .move (.tmp 3), none, false, [], false⟩,
 ⟨some 2, .assign (.tmp 24), none, false, [], false⟩])
 .ret)))))
noncomputable def fi44 : FI := ⟨c44, 25, [.tmp 2], .plain⟩
noncomputable def c45 : XC :=
 (.seq
 (.reg false [
 ⟨some 4, .assign (.const (.int .i64 0)), none, false, [], false⟩])
 (.seq
 (.seq
 (.reg false [
 ⟨some 6, .move (.tmp 0), none, false, [], false⟩,
 ⟨some 7, .call ⟨.builtin .len, #[.tmp 6], #[22]⟩, none, false, [], false⟩,
 ⟨some 8, .move (.const (.int .i64 0)), none, false, [], false⟩])
 (.block 0
 (.loop
 (.seq
 (.reg false [
 ⟨some 9, .binOp .lss 3 (.tmp 8) (.tmp 7) 3, none, false, [], false⟩])
 (.seq
 (.cond (.tmp 9)
 .skip
 (.exit 0))
 (.seq
 (.block 1
 (.seq
 (.reg false [
 ⟨some 10, .move (.tmp 8), none, false, [], false⟩,
 ⟨some 5, .assign (.tmp 10), none, false, [], false⟩])
 (.seq
 (.reg false [
 ⟨some 11, .move (.tmp 1), none, false, [], false⟩,
 ⟨some 12, .move (.tmp 0), none, false, [], false⟩,
 ⟨some 13, .move (.tmp 5), none, false, [], false⟩,
 ⟨some 14, .indexAddr 22 (.tmp 12) (.tmp 13), none, false, [], false⟩,
 ⟨some 15, .load 3 (.tmp 14), none, false, [], false⟩,
 ⟨some 16, .call ⟨.value (.tmp 11), #[.tmp 15], #[3]⟩, none, false, [], false⟩])
 (.cond (.tmp 16)
 (.seq
 (.reg false [
 ⟨some 17, .move (.tmp 5), none, false, [], false⟩,
 ⟨some 4, .assign (.tmp 17), none, false, [], false⟩])
 .ret)
 .skip))))
 (.reg false [
 ⟨some 18, .binOp .add 3 (.tmp 8) (.const (.int .i64 1)) 3, none, false, [], false⟩,
 ⟨some 8, .move (.tmp 18), none, false, [], false⟩])))))))
 (.seq
 (.reg false [
 ⟨some 4, .assign (.const (.int .i64 (-1))), none, false, [], false⟩])
 .ret)))
noncomputable def fi45 : FI := ⟨c45, 19, [.tmp 4], .plain⟩
noncomputable def c46 : XC :=
 (.seq
 (.reg false [
 ⟨some 1, .box 24 (.tmp 0), none, false, [], false⟩,
 ⟨some 2, .assign (.const (.bool false)), none, false, [], false⟩])
 (.seq
 (.seq
 (.reg false [
 ⟨some 3, .fieldAddr 24 (.tmp 1) 0, none, false, [], false⟩,
 ⟨some 4, .load 3 (.tmp 3), none, false, [], false⟩])
 (.block 0
 (.seq
 (.reg false [
 ⟨some 6, .binOp .eql 3 (.tmp 4) (.const (.int .i64 3)) 3, none, false, [], false⟩,
 ⟨some 5, .assign (.tmp 6), none, false, [], false⟩])
 (.cond (.tmp 5)
 (.seq
 (.reg false [
 ⟨some 7, .fieldAddr 24 (.tmp 1) 6, none, false, [], false⟩,
 ⟨some 8, .load 9 (.tmp 7), none, false, [], false⟩,
 ⟨some 9, .binOp .neq 9 (.tmp 8) (.const (.string ⟨#[]⟩)) 9, none, false, [], false⟩,
 ⟨some 10, .move (.tmp 9), none, false, [], false⟩,
 ⟨some 11, .fieldAddr 24 (.tmp 1) 6, some (some 10, true), false, [], false⟩,
 ⟨some 12, .load 9 (.tmp 11), some (some 10, true), false, [], false⟩,
 ⟨some 13, .call ⟨.value (.func 59), #[.tmp 12, .const (.string ⟨#[32]⟩)], #[9, 9]⟩, some (some 10, true), false, [], false⟩,
 ⟨some 14, .unOp .not 4 (.tmp 13), some (some 10, true), false, [], false⟩,
 ⟨some 15, .pick (.tmp 10) (.tmp 14) (.const (.bool false)), none, false, [], false⟩,
 ⟨some 16, .move (.tmp 15), none, false, [], false⟩,
 ⟨some 17, .fieldAddr 24 (.tmp 1) 6, some (some 16, true), false, [], false⟩,
 ⟨some 18, .load 9 (.tmp 17), some (some 16, true), false, [], false⟩,
 ⟨some 19, .binOp .add 9 (.const (.string ⟨#[32]⟩)) (.tmp 18) 9, some (some 16, true), false, [], false⟩,
 ⟨some 20, .binOp .add 9 (.tmp 19) (.const (.string ⟨#[32]⟩)) 9, some (some 16, true), false, [], false⟩,
 ⟨some 21, .call ⟨.value (.func 59), #[.const (.string ⟨#[32, 43, 32, 45, 32, 42, 32, 47, 32, 37, 32, 38, 32, 124, 32, 94, 32, 60, 60, 32, 62, 62, 32, 61, 61, 32, 33, 61, 32, 60, 32, 60, 61, 32, 62, 32, 62, 61, 32]⟩), .tmp 20], #[9, 9]⟩, some (some 16, true), false, [], false⟩,
 ⟨some 22, .pick (.tmp 16) (.tmp 21) (.const (.bool false)), none, false, [], false⟩,
 ⟨some 2, .assign (.tmp 22), none, false, [], false⟩])
 .ret)
 (.seq
 (.reg false [
 ⟨some 24, .binOp .eql 3 (.tmp 4) (.const (.int .i64 4)) 3, none, false, [], false⟩,
 ⟨some 23, .assign (.tmp 24), none, false, [], false⟩])
 (.cond (.tmp 23)
 (.seq
 (.reg false [
 ⟨some 25, .fieldAddr 24 (.tmp 1) 1, none, false, [], false⟩,
 ⟨some 26, .load 3 (.tmp 25), none, false, [], false⟩,
 ⟨some 27, .binOp .geq 3 (.tmp 26) (.const (.int .i64 1)) 3, none, false, [], false⟩,
 ⟨some 28, .move (.tmp 27), none, false, [], false⟩,
 ⟨some 29, .fieldAddr 24 (.tmp 1) 1, some (some 28, true), false, [], false⟩,
 ⟨some 30, .load 3 (.tmp 29), some (some 28, true), false, [], false⟩,
 ⟨some 31, .binOp .leq 3 (.tmp 30) (.const (.int .i64 3)) 3, some (some 28, true), false, [], false⟩,
 ⟨some 32, .pick (.tmp 28) (.tmp 31) (.const (.bool false)), none, false, [], false⟩,
 ⟨some 2, .assign (.tmp 32), none, false, [], false⟩])
 .ret)
 .skip))))))
 (.seq
 (.reg false [
 ⟨some 33, .fieldAddr 24 (.tmp 1) 0, none, false, [], false⟩,
 ⟨some 34, .load 3 (.tmp 33), none, false, [], false⟩,
 ⟨some 35, .binOp .geq 3 (.tmp 34) (.const (.int .i64 1)) 3, none, false, [], false⟩,
 ⟨some 36, .move (.tmp 35), none, false, [], false⟩,
 ⟨some 37, .fieldAddr 24 (.tmp 1) 0, some (some 36, true), false, [], false⟩,
 ⟨some 38, .load 3 (.tmp 37), some (some 36, true), false, [], false⟩,
 ⟨some 39, .binOp .leq 3 (.tmp 38) (.const (.int .i64 11)) 3, some (some 36, true), false, [], false⟩,
 ⟨some 40, .pick (.tmp 36) (.tmp 39) (.const (.bool false)), none, false, [], false⟩,
 ⟨some 2, .assign (.tmp 40), none, false, [], false⟩])
 .ret)))
noncomputable def fi46 : FI := ⟨c46, 41, [.tmp 2], .plain⟩
noncomputable def c47 : XC :=
 (.seq
 (.reg false [
 ⟨some 2, .box 65 (.tmp 0), none, false, [], false⟩,
 ⟨some 3, .box 24 (.tmp 1), none, false, [], false⟩,
 ⟨some 4, .assign (.const (.bool false)), none, false, [], false⟩])
 (.seq
 (.seq
 (.reg false [
 ⟨some 8, .load 24 (.tmp 3), none, false, [], false⟩,
 ⟨some 9, .call ⟨.value (.func 60), #[.tmp 8], #[24]⟩, none, false, [], false⟩,
 ⟨some 10, .call ⟨.builtin .len, #[.tmp 9], #[22]⟩, none, false, [], false⟩,
 ⟨some 11, .move (.const (.int .i64 0)), none, false, [], false⟩])
 (.block 0
 (.loop
 (.seq
 (.reg false [
 ⟨some 12, .binOp .lss 3 (.tmp 11) (.tmp 10) 3, none, false, [], false⟩])
 (.seq
 (.cond (.tmp 12)
 .skip
 (.exit 0))
 (.seq
 (.block 1
 (.seq
 (.reg false [
 ⟨some 13, .indexAddr 22 (.tmp 9) (.tmp 11), none, false, [], false⟩,
 ⟨some 14, .load 3 (.tmp 13), none, false, [], false⟩,
 ⟨some 6, .assign (.tmp 14), none, false, [], false⟩])
 (.seq
 (.reg false [
 ⟨some 15, .move (.tmp 6), none, false, [], false⟩,
 ⟨some 16, .fieldAddr 65 (.tmp 2) 1, none, false, [], false⟩,
 ⟨some 17, .fieldAddr 48 (.tmp 16) 3, none, false, [], false⟩,
 ⟨some 18, .load 22 (.tmp 17), none, false, [], false⟩,
 ⟨some 19, .call ⟨.builtin .len, #[.tmp 18], #[22]⟩, none, false, [], false⟩,
 ⟨some 20, .call ⟨.value (.func 49), #[.tmp 15, .tmp 19], #[3, 3]⟩, none, false, [], false⟩,
 ⟨some 21, .unOp .not 4 (.tmp 20), none, false, [], false⟩])
 (.cond (.tmp 21)
 (.seq
 (.reg false [
 ⟨some 4, .assign (.const (.bool false)), none, false, [], false⟩])
 .ret)
 .skip))))
 (.reg false [
 ⟨some 22, .binOp .add 3 (.tmp 11) (.const (.int .i64 1)) 3, none, false, [], false⟩,
 ⟨some 11, .move (.tmp 22), none, false, [], false⟩])))))))
 (.seq
 (.seq
 (.reg false [
 ⟨some 23, .load 24 (.tmp 3), none, false, [], false⟩,
 ⟨some 24, .call ⟨.value (.func 55), #[.tmp 23], #[24]⟩, none, false, [], false⟩,
 ⟨some 7, .assign (.tmp 24), none, false, [], false⟩])
 (.seq
 (.reg false [
 ⟨some 25, .fieldAddr 24 (.tmp 3) 0, none, false, [], false⟩,
 ⟨some 26, .load 3 (.tmp 25), none, false, [], false⟩,
 ⟨some 27, .binOp .neq 3 (.tmp 26) (.const (.int .i64 9)) 3, none, false, [], false⟩,
 ⟨some 28, .move (.tmp 27), none, false, [], false⟩,
 ⟨some 29, .move (.tmp 7), some (some 28, false), false, [], false⟩,
 ⟨some 30, .binOp .geq 3 (.tmp 29) (.const (.int .i64 0)) 3, some (some 28, false), false, [], false⟩,
 ⟨some 31, .pick (.tmp 28) (.const (.bool true)) (.tmp 30), none, false, [], false⟩,
 ⟨some 32, .move (.tmp 31), none, false, [], false⟩,
 ⟨some 33, .move (.tmp 7), some (some 32, true), false, [], false⟩,
 ⟨some 34, .binOp .neq 3 (.tmp 33) (.const (.int .i64 (-1))) 3, some (some 32, true), false, [], false⟩,
 ⟨some 35, .pick (.tmp 32) (.tmp 34) (.const (.bool false)), none, false, [], false⟩,
 ⟨some 36, .move (.tmp 35), none, false, [], false⟩,
 ⟨some 37, .move (.tmp 7), some (some 36, true), false, [], false⟩,
 ⟨some 38, .fieldAddr 65 (.tmp 2) 1, some (some 36, true), false, [], false⟩,
 ⟨some 39, .fieldAddr 48 (.tmp 38) 3, some (some 36, true), false, [], false⟩,
 ⟨some 40, .load 22 (.tmp 39), some (some 36, true), false, [], false⟩,
 ⟨some 41, .call ⟨.builtin .len, #[.tmp 40], #[22]⟩, some (some 36, true), false, [], false⟩,
 ⟨some 42, .call ⟨.value (.func 49), #[.tmp 37, .tmp 41], #[3, 3]⟩, some (some 36, true), false, [], false⟩,
 ⟨some 43, .unOp .not 4 (.tmp 42), some (some 36, true), false, [], false⟩,
 ⟨some 44, .pick (.tmp 36) (.tmp 43) (.const (.bool false)), none, false, [], false⟩])
 (.cond (.tmp 44)
 (.seq
 (.reg false [
 ⟨some 4, .assign (.const (.bool false)), none, false, [], false⟩])
 .ret)
 .skip)))
 (.seq
 (.seq
 (.reg false [
 ⟨some 45, .buildSlice 22 7 #[(0, .const (.int .i64 1)), (1, .const (.int .i64 2)), (2, .const (.int .i64 3)), (3, .const (.int .i64 4)), (4, .const (.int .i64 5)), (5, .const (.int .i64 7)), (6, .const (.int .i64 10))], none, false, [], false⟩,
 ⟨some 46, .fieldAddr 24 (.tmp 3) 0, none, false, [], false⟩,
 ⟨some 47, .load 3 (.tmp 46), none, false, [], false⟩,
 ⟨some 48, .call ⟨.value (.func 61), #[.tmp 45, .tmp 47], #[22, 3]⟩, none, false, [], false⟩,
 ⟨some 49, .move (.tmp 48), none, false, [], false⟩,
 ⟨some 50, .fieldAddr 24 (.tmp 3) 2, some (some 49, true), false, [], false⟩,
 ⟨some 51, .load 3 (.tmp 50), some (some 49, true), false, [], false⟩,
 ⟨some 52, .binOp .lss 3 (.tmp 51) (.const (.int .i64 0)) 3, some (some 49, true), false, [], false⟩,
 ⟨some 53, .pick (.tmp 49) (.tmp 52) (.const (.bool false)), none, false, [], false⟩])
 (.cond (.tmp 53)
 (.seq
 (.reg false [
 ⟨some 4, .assign (.const (.bool false)), none, false, [], false⟩])
 .ret)
 .skip))
 (.seq
 (.seq
 (.reg false [
 ⟨some 54, .fieldAddr 24 (.tmp 3) 0, none, false, [], false⟩,
 ⟨some 55, .load 3 (.tmp 54), none, false, [], false⟩])
 (.block 2
 (.seq
 (.reg false [
 ⟨some 57, .binOp .eql 3 (.tmp 55) (.const (.int .i64 1)) 3, none, false, [], false⟩,
 ⟨some 56, .assign (.tmp 57), none, false, [], false⟩])
 (.cond (.tmp 56)
 (.seq
 (.reg true [
 ⟨some 58, .fieldAddr 65 (.tmp 2) 1, none, false, [], false⟩,
 ⟨some 59, .fieldAddr 48 (.tmp 58) 3, none, false, [], false⟩,
 ⟨some 60, .load 22 (.tmp 59), none, false, [], false⟩,
 ⟨some 61, .fieldAddr 24 (.tmp 3) 2, none, false, [], false⟩,
 ⟨some 62, .load 3 (.tmp 61), none, false, [], false⟩,
 ⟨some 63, .indexAddr 22 (.tmp 60) (.tmp 62), none, false, [], false⟩,
 ⟨some 64, .load 3 (.tmp 63), none, false, [], false⟩,
 ⟨some 65, .fieldAddr 24 (.tmp 3) 5, none, false, [], false⟩,
 ⟨some 66, .load 3 (.tmp 65), none, false, [], false⟩,
 ⟨some 67, .call ⟨.value (.func 42), #[.tmp 64, .tmp 66], #[3, 3]⟩, none, true, [false, false, true, true], false⟩,
 ⟨some 68, .fieldAddr 24 (.tmp 3) 5, none, false, [], false⟩,
 ⟨some 69, .load 3 (.tmp 68), none, false, [], true⟩,
 ⟨some 70, .binOp .eql 3 (.tmp 67) (.tmp 69) 3, none, false, [], false⟩,
 ⟨some 4, .assign (.tmp 70), none, false, [], false⟩])
 .ret)
 (.seq
 (.seq
 (.reg false [
 ⟨some 72, .binOp .eql 3 (.tmp 55) (.const (.int .i64 5)) 3, none, false, [], false⟩,
 ⟨some 71, .assign (.tmp 72), none, false, [], false⟩])
 (.cond (.tmp 71)
 .skip
 (.reg false [
 ⟨some 73, .binOp .eql 3 (.tmp 55) (.const (.int .i64 6)) 3, none, false, [], false⟩,
 ⟨some 71, .assign (.tmp 73), none, false, [], false⟩])))
 (.cond (.tmp 71)
 (.seq
 (.reg false [
 ⟨some 74, .load 65 (.tmp 2), none, false, [], false⟩,
 ⟨some 75, .fieldAddr 24 (.tmp 3) 5, none, false, [], false⟩,
 ⟨some 76, .load 3 (.tmp 75), none, false, [], false⟩,
 ⟨some 77, .call ⟨.value (.func 62), #[.tmp 74, .tmp 76, .const (.bool true)], #[65, 3, 4]⟩, none, false, [], false⟩,
 ⟨some 4, .assign (.tmp 77), none, false, [], false⟩])
 .ret)
 (.seq
 (.seq
 (.reg false [
 ⟨some 79, .binOp .eql 3 (.tmp 55) (.const (.int .i64 7)) 3, none, false, [], false⟩,
 ⟨some 78, .assign (.tmp 79), none, false, [], false⟩])
 (.cond (.tmp 78)
 .skip
 (.reg false [
 ⟨some 80, .binOp .eql 3 (.tmp 55) (.const (.int .i64 8)) 3, none, false, [], false⟩,
 ⟨some 78, .assign (.tmp 80), none, false, [], false⟩])))
 (.cond (.tmp 78)
 (.seq
 (.reg false [
 ⟨some 81, .load 65 (.tmp 2), none, false, [], false⟩,
 ⟨some 82, .fieldAddr 24 (.tmp 3) 5, none, false, [], false⟩,
 ⟨some 83, .load 3 (.tmp 82), none, false, [], false⟩,
 ⟨some 84, .call ⟨.value (.func 62), #[.tmp 81, .tmp 83, .const (.bool false)], #[65, 3, 4]⟩, none, false, [], false⟩,
 ⟨some 4, .assign (.tmp 84), none, false, [], false⟩])
 .ret)
 (.seq
 (.reg false [
 ⟨some 86, .binOp .eql 3 (.tmp 55) (.const (.int .i64 9)) 3, none, false, [], false⟩,
 ⟨some 85, .assign (.tmp 86), none, false, [], false⟩])
 (.cond (.tmp 85)
 (.seq
 (.reg true [
 ⟨some 87, .fieldAddr 24 (.tmp 3) 5, none, false, [], false⟩,
 ⟨some 88, .load 3 (.tmp 87), none, false, [], false⟩,
 ⟨some 89, .fieldAddr 65 (.tmp 2) 0, none, false, [], false⟩,
 ⟨some 90, .fieldAddr 35 (.tmp 89) 1, none, false, [], false⟩,
 ⟨some 91, .load 33 (.tmp 90), none, false, [], false⟩,
 ⟨some 92, .call ⟨.builtin .len, #[.tmp 91], #[33]⟩, none, false, [], false⟩,
 ⟨some 93, .call ⟨.value (.func 49), #[.tmp 88, .tmp 92], #[3, 3]⟩, none, false, [true, true, true, true, true, true, true, true, true, true, true, true, true, true, true, true, true, true, true, true, true], false⟩,
 ⟨some 94, .move (.tmp 93), none, false, [], false⟩,
 ⟨some 95, .fieldAddr 65 (.tmp 2) 0, some (some 94, true), false, [], false⟩,
 ⟨some 96, .fieldAddr 35 (.tmp 95) 1, some (some 94, true), false, [], false⟩,
 ⟨some 97, .load 33 (.tmp 96), some (some 94, true), false, [], false⟩,
 ⟨some 98, .fieldAddr 24 (.tmp 3) 5, some (some 94, true), false, [], false⟩,
 ⟨some 99, .load 3 (.tmp 98), some (some 94, true), false, [], false⟩,
 ⟨some 100, .indexAddr 33 (.tmp 97) (.tmp 99), some (some 94, true), false, [], false⟩,
 ⟨some 101, .fieldAddr 48 (.tmp 100) 3, some (some 94, true), false, [], false⟩,
 ⟨some 102, .load 22 (.tmp 101), some (some 94, true), false, [], false⟩,
 ⟨some 103, .call ⟨.builtin .len, #[.tmp 102], #[22]⟩, some (some 94, true), false, [], false⟩,
 ⟨some 104, .fieldAddr 65 (.tmp 2) 0, some (some 94, true), false, [], false⟩,
 ⟨some 105, .fieldAddr 35 (.tmp 104) 1, some (some 94, true), false, [], false⟩,
 ⟨some 106, .load 33 (.tmp 105), some (some 94, true), false, [], false⟩,
 ⟨some 107, .fieldAddr 24 (.tmp 3) 5, some (some 94, true), false, [], false⟩,
 ⟨some 108, .load 3 (.tmp 107), some (some 94, true), false, [], false⟩,
 ⟨some 109, .indexAddr 33 (.tmp 106) (.tmp 108), some (some 94, true), false, [], false⟩,
 ⟨some 110, .fieldAddr 48 (.tmp 109) 2, some (some 94, true), false, [], false⟩,
 ⟨some 111, .load 3 (.tmp 110), some (some 94, true), false, [], false⟩,
 ⟨some 112, .binOp .geq 3 (.tmp 103) (.tmp 111) 3, some (some 94, true), false, [], false⟩,
 ⟨some 113, .pick (.tmp 94) (.tmp 112) (.const (.bool false)), none, false, [], false⟩,
 ⟨some 4, .assign (.tmp 113), none, false, [], false⟩])
 .ret)
 .skip))))))))))
 (.seq
 (.reg false [
 ⟨some 4, .assign (.const (.bool true)), none, false, [], false⟩])
 .ret))))))
noncomputable def fi47 : FI := ⟨c47, 114, [.tmp 4], .plain⟩
noncomputable def c48 : XC :=
 (.seq
 (.reg false [
 ⟨some 2, .box 65 (.tmp 0), none, false, [], false⟩,
 ⟨some 3, .box 24 (.tmp 1), none, false, [], false⟩,
 ⟨some 4, .assign (.const (.bool false)), none, false, [], false⟩])
 (.seq
 (.reg false [
 ⟨some 7, .makeFunc (.func 63) #[] #[.tmp 2], none, false, [], false⟩,
 ⟨some 5, .assign (.tmp 7), none, false, [], false⟩])
 (.seq
 (.seq
 (.reg false [
 ⟨some 8, .fieldAddr 24 (.tmp 3) 0, none, false, [], false⟩,
 ⟨some 9, .load 3 (.tmp 8), none, false, [], false⟩])
 (.block 0
 (.seq
 (.reg false [
 ⟨some 11, .binOp .eql 3 (.tmp 9) (.const (.int .i64 2)) 3, none, false, [], false⟩,
 ⟨some 10, .assign (.tmp 11), none, false, [], false⟩])
 (.cond (.tmp 10)
 (.seq
 (.reg true [
 ⟨some 12, .move (.tmp 5), none, false, [], false⟩,
 ⟨some 13, .fieldAddr 24 (.tmp 3) 3, none, false, [], false⟩,
 ⟨some 14, .load 3 (.tmp 13), none, false, [], false⟩,
 ⟨some 15, .fieldAddr 65 (.tmp 2) 1, none, false, [], false⟩,
 ⟨some 16, .fieldAddr 48 (.tmp 15) 3, none, false, [], false⟩,
 ⟨some 17, .load 22 (.tmp 16), none, false, [], false⟩,
 ⟨some 18, .fieldAddr 24 (.tmp 3) 2, none, false, [], false⟩,
 ⟨some 19, .load 3 (.tmp 18), none, false, [], false⟩,
 ⟨some 20, .indexAddr 22 (.tmp 17) (.tmp 19), none, false, [], false⟩,
 ⟨some 21, .load 3 (.tmp 20), none, false, [], false⟩,
 ⟨some 22, .call ⟨.value (.tmp 12), #[.tmp 14, .tmp 21], #[3, 3]⟩, none, false, [true], false⟩,
 ⟨some 4, .assign (.tmp 22), none, false, [], false⟩])
 .ret)
 (.seq
 (.reg false [
 ⟨some 24, .binOp .eql 3 (.tmp 9) (.const (.int .i64 3)) 3, none, false, [], false⟩,
 ⟨some 23, .assign (.tmp 24), none, false, [], false⟩])
 (.cond (.tmp 23)
 (.seq
 (.reg false [
 ⟨some 25, .fieldAddr 24 (.tmp 3) 1, none, false, [], false⟩,
 ⟨some 26, .load 3 (.tmp 25), none, false, [], false⟩,
 ⟨some 6, .assign (.tmp 26), none, false, [], false⟩])
 (.seq
 (.seq
 (.reg false [
 ⟨some 27, .fieldAddr 24 (.tmp 3) 6, none, false, [], false⟩,
 ⟨some 28, .load 9 (.tmp 27), none, false, [], false⟩,
 ⟨some 29, .binOp .add 9 (.const (.string ⟨#[32]⟩)) (.tmp 28) 9, none, false, [], false⟩,
 ⟨some 30, .binOp .add 9 (.tmp 29) (.const (.string ⟨#[32]⟩)) 9, none, false, [], false⟩,
 ⟨some 31, .call ⟨.value (.func 59), #[.const (.string ⟨#[32, 61, 61, 32, 33, 61, 32, 60, 32, 60, 61, 32, 62, 32, 62, 61, 32]⟩), .tmp 30], #[9, 9]⟩, none, false, [], false⟩])
 (.cond (.tmp 31)
 (.reg false [
 ⟨some 6, .assign (.const (.int .i64 1)), none, false, [], false⟩])
 .skip))
 (.seq
 (.reg false [
 ⟨some 32, .move (.tmp 5), none, false, [], false⟩,
 ⟨some 33, .fieldAddr 24 (.tmp 3) 3, none, false, [], false⟩,
 ⟨some 34, .load 3 (.tmp 33), none, false, [], false⟩,
 ⟨some 35, .fieldAddr 24 (.tmp 3) 1, none, false, [], false⟩,
 ⟨some 36, .load 3 (.tmp 35), none, false, [], false⟩,
 ⟨some 37, .call ⟨.value (.tmp 32), #[.tmp 34, .tmp 36], #[3, 3]⟩, none, false, [], false⟩,
 ⟨some 38, .move (.tmp 37), none, false, [], false⟩,
 ⟨some 39, .move (.tmp 5), some (some 38, true), false, [], false⟩,
 ⟨some 40, .fieldAddr 24 (.tmp 3) 4, some (some 38, true), false, [], false⟩,
 ⟨some 41, .load 3 (.tmp 40), some (some 38, true), false, [], false⟩,
 ⟨some 42, .fieldAddr 24 (.tmp 3) 1, some (some 38, true), false, [], false⟩,
 ⟨some 43, .load 3 (.tmp 42), some (some 38, true), false, [], false⟩,
 ⟨some 44, .call ⟨.value (.tmp 39), #[.tmp 41, .tmp 43], #[3, 3]⟩, some (some 38, true), false, [], false⟩,
 ⟨some 45, .pick (.tmp 38) (.tmp 44) (.const (.bool false)), none, false, [], false⟩,
 ⟨some 46, .move (.tmp 45), none, false, [], false⟩,
 ⟨some 47, .move (.tmp 5), some (some 46, true), false, [], false⟩,
 ⟨some 48, .fieldAddr 24 (.tmp 3) 2, some (some 46, true), false, [], false⟩,
 ⟨some 49, .load 3 (.tmp 48), some (some 46, true), false, [], false⟩,
 ⟨some 50, .move (.tmp 6), some (some 46, true), false, [], false⟩,
 ⟨some 51, .call ⟨.value (.tmp 47), #[.tmp 49, .tmp 50], #[3, 3]⟩, some (some 46, true), false, [], false⟩,
 ⟨some 52, .pick (.tmp 46) (.tmp 51) (.const (.bool false)), none, false, [], false⟩,
 ⟨some 4, .assign (.tmp 52), none, false, [], false⟩])
 .ret)))
 (.seq
 (.reg false [
 ⟨some 54, .binOp .eql 3 (.tmp 9) (.const (.int .i64 4)) 3, none, false, [], false⟩,
 ⟨some 53, .assign (.tmp 54), none, false, [], false⟩])
 (.cond (.tmp 53)
 (.seq
 (.reg true [
 ⟨some 58, .fieldAddr 24 (.tmp 3) 1, none, false, [], false⟩,
 ⟨some 59, .load 3 (.tmp 58), none, false, [], false⟩,
 ⟨some 60, .call ⟨.value (.func 64), #[.tmp 59], #[3]⟩, none, true, [false, false, false, true, true], false⟩,
 ⟨some 55, .move (.tmp 5), none, false, [], false⟩,
 ⟨some 56, .fieldAddr 24 (.tmp 3) 2, none, false, [], false⟩,
 ⟨some 57, .load 3 (.tmp 56), none, false, [], true⟩,
 ⟨some 61, .call ⟨.value (.tmp 55), #[.tmp 57, .tmp 60], #[3, 3]⟩, none, false, [true], false⟩,
 ⟨some 4, .assign (.tmp 61), none, false, [], false⟩])
 .ret)
 (.seq
 (.reg false [
 ⟨some 63, .binOp .eql 3 (.tmp 9) (.const (.int .i64 5)) 3, none, false, [], false⟩,
 ⟨some 62, .assign (.tmp 63), none, false, [], false⟩])
 (.cond (.tmp 62)
 (.seq
 (.reg true [
 ⟨some 64, .move (.tmp 5), none, false, [], false⟩,
 ⟨some 65, .fieldAddr 24 (.tmp 3) 3, none, false, [], false⟩,
 ⟨some 66, .load 3 (.tmp 65), none, false, [], false⟩,
 ⟨some 67, .call ⟨.value (.tmp 64), #[.tmp 66, .const (.int .i64 2)], #[3, 3]⟩, none, false, [true, true, true, true, true, true, true, true, true, true, true, true, true, true, true, true], false⟩,
 ⟨some 68, .move (.tmp 67), none, false, [], false⟩,
 ⟨some 72, .fieldAddr 65 (.tmp 2) 0, some (some 68, true), false, [], false⟩,
 ⟨some 73, .fieldAddr 35 (.tmp 72) 0, some (some 68, true), false, [], false⟩,
 ⟨some 74, .load 32 (.tmp 73), some (some 68, true), false, [], false⟩,
 ⟨some 75, .fieldAddr 24 (.tmp 3) 5, some (some 68, true), false, [], false⟩,
 ⟨some 76, .load 3 (.tmp 75), some (some 68, true), false, [], false⟩,
 ⟨some 77, .indexAddr 32 (.tmp 74) (.tmp 76), some (some 68, true), false, [], false⟩,
 ⟨some 78, .fieldAddr 44 (.tmp 77) 1, some (some 68, true), false, [], false⟩,
 ⟨some 79, .load 3 (.tmp 78), some (some 68, true), false, [], false⟩,
 ⟨some 80, .call ⟨.value (.func 64), #[.tmp 79], #[3]⟩, some (some 68, true), true, [false, false, false, true, true, true], false⟩,
 ⟨some 69, .move (.tmp 5), some (some 68, true), false, [], false⟩,
 ⟨some 70, .fieldAddr 24 (.tmp 3) 2, some (some 68, true), false, [], false⟩,
 ⟨some 71, .load 3 (.tmp 70), some (some 68, true), false, [], true⟩,
 ⟨some 81, .call ⟨.value (.tmp 69), #[.tmp 71, .tmp 80], #[3, 3]⟩, some (some 68, true), false, [true, true], false⟩,
 ⟨some 82, .pick (.tmp 68) (.tmp 81) (.const (.bool false)), none, false, [], false⟩,
 ⟨some 4, .assign (.tmp 82), none, false, [], false⟩])
 .ret)
 (.seq
 (.reg false [
 ⟨some 84, .binOp .eql 3 (.tmp 9) (.const (.int .i64 6)) 3, none, false, [], false⟩,
 ⟨some 83, .assign (.tmp 84), none, false, [], false⟩])
 (.cond (.tmp 83)
 (.seq
 (.reg true [
 ⟨some 85, .move (.tmp 5), none, false, [], false⟩,
 ⟨some 86, .fieldAddr 24 (.tmp 3) 3, none, false, [], false⟩,
 ⟨some 87, .load 3 (.tmp 86), none, false, [], false⟩,
 ⟨some 88, .call ⟨.value (.tmp 85), #[.tmp 87, .const (.int .i64 2)], #[3, 3]⟩, none, false, [true, true, true, true, true, true, true, true, true, true, true, true, true, true, true, true], false⟩,
 ⟨some 89, .move (.tmp 88), none, false, [], false⟩,
 ⟨some 93, .fieldAddr 65 (.tmp 2) 0, some (some 89, true), false, [], false⟩,
 ⟨some 94, .fieldAddr 35 (.tmp 93) 0, some (some 89, true), false, [], false⟩,
 ⟨some 95, .load 32 (.tmp 94), some (some 89, true), false, [], false⟩,
 ⟨some 96, .fieldAddr 24 (.tmp 3) 5, some (some 89, true), false, [], false⟩,
 ⟨some 97, .load 3 (.tmp 96), some (some 89, true), false, [], false⟩,
 ⟨some 98, .indexAddr 32 (.tmp 95) (.tmp 97), some (some 89, true), false, [], false⟩,
 ⟨some 99, .fieldAddr 44 (.tmp 98) 1, some (some 89, true), false, [], false⟩,
 ⟨some 100, .load 3 (.tmp 99), some (some 89, true), false, [], false⟩,
 ⟨some 101, .call ⟨.value (.func 64), #[.tmp 100], #[3]⟩, some (some 89, true), true, [false, false, false, true, true, true], false⟩,
 ⟨some 90, .move (.tmp 5), some (some 89, true), false, [], false⟩,
 ⟨some 91, .fieldAddr 24 (.tmp 3) 4, some (some 89, true), false, [], false⟩,
 ⟨some 92, .load 3 (.tmp 91), some (some 89, true), false, [], true⟩,
 ⟨some 102, .call ⟨.value (.tmp 90), #[.tmp 92, .tmp 101], #[3, 3]⟩, some (some 89, true), false, [true, true], false⟩,
 ⟨some 103, .pick (.tmp 89) (.tmp 102) (.const (.bool false)), none, false, [], false⟩,
 ⟨some 4, .assign (.tmp 103), none, false, [], false⟩])
 .ret)
 (.seq
 (.reg false [
 ⟨some 105, .binOp .eql 3 (.tmp 9) (.const (.int .i64 7)) 3, none, false, [], false⟩,
 ⟨some 104, .assign (.tmp 105), none, false, [], false⟩])
 (.cond (.tmp 104)
 (.seq
 (.reg true [
 ⟨some 106, .move (.tmp 5), none, false, [], false⟩,
 ⟨some 107, .fieldAddr 24 (.tmp 3) 2, none, false, [], false⟩,
 ⟨some 108, .load 3 (.tmp 107), none, false, [], false⟩,
 ⟨some 109, .fieldAddr 65 (.tmp 2) 0, none, false, [], false⟩,
 ⟨some 110, .fieldAddr 35 (.tmp 109) 0, none, false, [], false⟩,
 ⟨some 111, .load 32 (.tmp 110), none, false, [], false⟩,
 ⟨some 112, .fieldAddr 24 (.tmp 3) 5, none, false, [], false⟩,
 ⟨some 113, .load 3 (.tmp 112), none, false, [], false⟩,
 ⟨some 114, .indexAddr 32 (.tmp 111) (.tmp 113), none, false, [], false⟩,
 ⟨some 115, .fieldAddr 44 (.tmp 114) 1, none, false, [], false⟩,
 ⟨some 116, .load 3 (.tmp 115), none, false, [], false⟩,
 ⟨some 117, .call ⟨.value (.tmp 106), #[.tmp 108, .tmp 116], #[3, 3]⟩, none, false, [true], false⟩,
 ⟨some 4, .assign (.tmp 117), none, false, [], false⟩])
 .ret)
 (.seq
 (.reg false [
 ⟨some 119, .binOp .eql 3 (.tmp 9) (.const (.int .i64 8)) 3, none, false, [], false⟩,
 ⟨some 118, .assign (.tmp 119), none, false, [], false⟩])
 (.cond (.tmp 118)
 (.seq
 (.reg true [
 ⟨some 120, .move (.tmp 5), none, false, [], false⟩,
 ⟨some 121, .fieldAddr 24 (.tmp 3) 3, none, false, [], false⟩,
 ⟨some 122, .load 3 (.tmp 121), none, false, [], false⟩,
 ⟨some 123, .fieldAddr 65 (.tmp 2) 0, none, false, [], false⟩,
 ⟨some 124, .fieldAddr 35 (.tmp 123) 0, none, false, [], false⟩,
 ⟨some 125, .load 32 (.tmp 124), none, false, [], false⟩,
 ⟨some 126, .fieldAddr 24 (.tmp 3) 5, none, false, [], false⟩,
 ⟨some 127, .load 3 (.tmp 126), none, false, [], false⟩,
 ⟨some 128, .indexAddr 32 (.tmp 125) (.tmp 127), none, false, [], false⟩,
 ⟨some 129, .fieldAddr 44 (.tmp 128) 1, none, false, [], false⟩,
 ⟨some 130, .load 3 (.tmp 129), none, false, [], false⟩,
 ⟨some 131, .call ⟨.value (.tmp 120), #[.tmp 122, .tmp 130], #[3, 3]⟩, none, false, [true], false⟩,
 ⟨some 4, .assign (.tmp 131), none, false, [], false⟩])
 .ret)
 (.seq
 (.reg false [
 ⟨some 133, .binOp .eql 3 (.tmp 9) (.const (.int .i64 9)) 3, none, false, [], false⟩,
 ⟨some 132, .assign (.tmp 133), none, false, [], false⟩])
 (.cond (.tmp 132)
 (.seq
 (.reg false [
 ⟨some 134, .load 65 (.tmp 2), none, false, [], false⟩,
 ⟨some 135, .load 24 (.tmp 3), none, false, [], false⟩,
 ⟨some 136, .move (.tmp 5), none, false, [], false⟩,
 ⟨some 137, .call ⟨.value (.func 65), #[.tmp 134, .tmp 135, .tmp 136], #[65, 24, 97]⟩, none, false, [], false⟩,
 ⟨some 4, .assign (.tmp 137), none, false, [], false⟩])
 .ret)
 (.seq
 (.reg false [
 ⟨some 139, .binOp .eql 3 (.tmp 9) (.const (.int .i64 10)) 3, none, false, [], false⟩,
 ⟨some 138, .assign (.tmp 139), none, false, [], false⟩])
 (.cond (.tmp 138)
 (.seq
 (.reg false [
 ⟨some 140, .move (.tmp 5), none, false, [], false⟩,
 ⟨some 141, .fieldAddr 24 (.tmp 3) 2, none, false, [], false⟩,
 ⟨some 142, .load 3 (.tmp 141), none, false, [], false⟩,
 ⟨some 143, .call ⟨.value (.tmp 140), #[.tmp 142, .const (.int .i64 2)], #[3, 3]⟩, none, false, [], false⟩,
 ⟨some 4, .assign (.tmp 143), none, false, [], false⟩])
 .ret)
 (.seq
 (.reg false [
 ⟨some 145, .binOp .eql 3 (.tmp 9) (.const (.int .i64 11)) 3, none, false, [], false⟩,
 ⟨some 144, .assign (.tmp 145), none, false, [], false⟩])
 (.cond (.tmp 144)
 (.seq
 (.reg false [
 ⟨some 146, .move (.tmp 5), none, false, [], false⟩,
 ⟨some 147, .fieldAddr 24 (.tmp 3) 3, none, false, [], false⟩,
 ⟨some 148, .load 3 (.tmp 147), none, false, [], false⟩,
 ⟨some 149, .call ⟨.value (.tmp 146), #[.tmp 148, .const (.int .i64 2)], #[3, 3]⟩, none, false, [], false⟩,
 ⟨some 4, .assign (.tmp 149), none, false, [], false⟩])
 .ret)
 .skip))))))))))))))))))))))
 (.seq
 (.reg false [
 ⟨some 4, .assign (.const (.bool true)), none, false, [], false⟩])
 .ret))))
noncomputable def fi48 : FI := ⟨c48, 150, [.tmp 4], .plain⟩
noncomputable def c49 : XC :=
 (.seq
 (.reg false [
 ⟨some 4, .assign (.const (.bool false)), none, false, [], false⟩])
 (.seq
 (.reg false [
 ⟨some 5, .move (.tmp 0), none, false, [], false⟩,
 ⟨some 6, .binOp .geq 3 (.tmp 5) (.const (.int .i64 0)) 3, none, false, [], false⟩,
 ⟨some 7, .move (.tmp 6), none, false, [], false⟩,
 ⟨some 8, .move (.tmp 0), some (some 7, true), false, [], false⟩,
 ⟨some 9, .move (.tmp 1), some (some 7, true), false, [], false⟩,
 ⟨some 10, .binOp .lss 3 (.tmp 8) (.tmp 9) 3, some (some 7, true), false, [], false⟩,
 ⟨some 11, .pick (.tmp 7) (.tmp 10) (.const (.bool false)), none, false, [], false⟩,
 ⟨some 4, .assign (.tmp 11), none, false, [], false⟩])
 .ret))
noncomputable def fi49 : FI := ⟨c49, 12, [.tmp 4], .plain⟩
noncomputable def c55 : XC :=
 (.seq
 (.reg false [
 ⟨some 1, .box 24 (.tmp 0), none, false, [], false⟩,
 ⟨some 2, .assign (.const (.int .i64 0)), none, false, [], false⟩])
 (.seq
 (.seq
 (.reg false [
 ⟨some 3, .fieldAddr 24 (.tmp 1) 0, none, false, [], false⟩,
 ⟨some 4, .load 3 (.tmp 3), none, false, [], false⟩])
 (.block 0
 (.seq
 (.seq
 (.reg false [
 ⟨some 6, .binOp .eql 3 (.tmp 4) (.const (.int .i64 1)) 3, none, false, [], false⟩,
 ⟨some 5, .assign (.tmp 6), none, false, [], false⟩])
 (.cond (.tmp 5)
 .skip
 (.seq
 (.reg false [
 ⟨some 7, .binOp .eql 3 (.tmp 4) (.const (.int .i64 2)) 3, none, false, [], false⟩,
 ⟨some 5, .assign (.tmp 7), none, false, [], false⟩])
 (.cond (.tmp 5)
 .skip
 (.seq
 (.reg false [
 ⟨some 8, .binOp .eql 3 (.tmp 4) (.const (.int .i64 3)) 3, none, false, [], false⟩,
 ⟨some 5, .assign (.tmp 8), none, false, [], false⟩])
 (.cond (.tmp 5)
 .skip
 (.seq
 (.reg false [
 ⟨some 9, .binOp .eql 3 (.tmp 4) (.const (.int .i64 4)) 3, none, false, [], false⟩,
 ⟨some 5, .assign (.tmp 9), none, false, [], false⟩])
 (.cond (.tmp 5)
 .skip
 (.seq
 (.reg false [
 ⟨some 10, .binOp .eql 3 (.tmp 4) (.const (.int .i64 5)) 3, none, false, [], false⟩,
 ⟨some 5, .assign (.tmp 10), none, false, [], false⟩])
 (.cond (.tmp 5)
 .skip
 (.seq
 (.reg false [
 ⟨some 11, .binOp .eql 3 (.tmp 4) (.const (.int .i64 7)) 3, none, false, [], false⟩,
 ⟨some 5, .assign (.tmp 11), none, false, [], false⟩])
 (.cond (.tmp 5)
 .skip
 (.reg false [
 ⟨some 12, .binOp .eql 3 (.tmp 4) (.const (.int .i64 10)) 3, none, false, [], false⟩,
 ⟨some 5, .assign (.tmp 12), none, false, [], false⟩])))))))))))))
 (.cond (.tmp 5)
 (.seq
 (.reg false [
 ⟨some 13, .fieldAddr 24 (.tmp 1) 2, none, false, [], false⟩,
 ⟨some 14, .load 3 (.tmp 13), none, false, [], false⟩,
 ⟨some 2, .assign (.tmp 14), none, false, [], false⟩])
 .ret)
 (.seq
 (.reg false [
 ⟨some 16, .binOp .eql 3 (.tmp 4) (.const (.int .i64 9)) 3, none, false, [], false⟩,
 ⟨some 15, .assign (.tmp 16), none, false, [], false⟩])
 (.cond (.tmp 15)
 (.seq
 (.reg false [
 ⟨some 17, .fieldAddr 24 (.tmp 1) 2, none, false, [], false⟩,
 ⟨some 18, .load 3 (.tmp 17), none, false, [], false⟩,
 ⟨some 19, .call ⟨.builtin .max, #[.tmp 18, .const (.int .i64 (-1))], #[3, 3]⟩, none, false, [], false⟩,
 ⟨some 2, .assign (.tmp 19), none, false, [], false⟩])
 .ret)
 .skip))))))
 (.seq
 (.reg false [
 ⟨some 2, .assign (.const (.int .i64 (-1))), none, false, [], false⟩])
 .ret)))
noncomputable def fi55 : FI := ⟨c55, 20, [.tmp 2], .plain⟩
noncomputable def c57 : XC :=
 (.seq
 (.reg false [
 ⟨some 8, .assign (.const (.int .i64 0)), none, false, [], false⟩,
 ⟨some 9, .assign (.const (.int .i64 0)), none, false, [], false⟩])
 (.seq
 (.seq
 (.reg false [
 ⟨some 12, .move (.tmp 0), none, false, [], false⟩,
 ⟨some 13, .binOp .eql 9 (.tmp 12) (.const (.string ⟨#[47]⟩)) 9, none, false, [], false⟩,
 ⟨some 14, .move (.tmp 13), none, false, [], false⟩,
 ⟨some 15, .move (.tmp 0), some (some 14, false), false, [], false⟩,
 ⟨some 16, .binOp .eql 9 (.tmp 15) (.const (.string ⟨#[37]⟩)) 9, some (some 14, false), false, [], false⟩,
 ⟨some 17, .pick (.tmp 14) (.const (.bool true)) (.tmp 16), none, false, [], false⟩])
 (.cond (.tmp 17)
 (.seq
 (.reg false [
 ⟨some 19, .move (.tmp 0), none, false, [], false⟩,
 ⟨some 20, .move (.tmp 1), none, false, [], false⟩,
 ⟨some 21, .move (.tmp 2), none, false, [], false⟩,
 ⟨some 22, .call ⟨.value (.func 72), #[.tmp 19, .tmp 20, .tmp 21], #[9, 21, 21]⟩, none, false, [], false⟩,
 ⟨some 18, .move (.tmp 22), none, false, [], false⟩,
 ⟨some 23, .extract (.tmp 18) 0, none, false, [], false⟩,
 ⟨some 24, .extract (.tmp 18) 1, none, false, [], false⟩,
 ⟨some 10, .assign (.tmp 23), none, false, [], false⟩,
 ⟨some 11, .assign (.tmp 24), none, false, [], false⟩])
 (.seq
 (.reg false [
 ⟨some 25, .move (.tmp 10), none, false, [], false⟩,
 ⟨some 26, .convert 21 3 (.tmp 25), none, false, [], false⟩,
 ⟨some 27, .move (.tmp 11), none, false, [], false⟩,
 ⟨some 8, .assign (.tmp 26), none, false, [], false⟩,
 ⟨some 9, .assign (.tmp 27), none, false, [], false⟩])
 .ret))
 .skip))
 (.seq
 (.reg false [
 ⟨some 28, .move (.tmp 0), none, false, [], false⟩,
 ⟨some 29, .move (.tmp 1), none, false, [], false⟩,
 ⟨some 30, .move (.tmp 2), none, false, [], false⟩,
 ⟨some 31, .move (.tmp 3), none, false, [], false⟩,
 ⟨some 32, .call ⟨.value (.func 73), #[.tmp 28, .tmp 29, .tmp 30, .tmp 31], #[9, 21, 21, 3]⟩, none, false, [], false⟩,
 ⟨some 33, .convert 21 3 (.tmp 32), none, false, [], false⟩,
 ⟨some 8, .assign (.tmp 33), none, false, [], false⟩,
 ⟨some 9, .assign (.const (.int .i64 0)), none, false, [], false⟩])
 .ret)))
noncomputable def fi57 : FI := ⟨c57, 34, [.tmp 8, .tmp 9], .plain⟩
noncomputable def c58 : XC :=
 (.seq
 (.reg false [
 ⟨some 8, .assign (.const (.int .i64 0)), none, false, [], false⟩,
 ⟨some 9, .assign (.const (.int .i64 0)), none, false, [], false⟩])
 (.seq
 (.seq
 (.reg false [
 ⟨some 12, .move (.tmp 0), none, false, [], false⟩,
 ⟨some 13, .binOp .eql 9 (.tmp 12) (.const (.string ⟨#[47]⟩)) 9, none, false, [], false⟩,
 ⟨some 14, .move (.tmp 13), none, false, [], false⟩,
 ⟨some 15, .move (.tmp 0), some (some 14, false), false, [], false⟩,
 ⟨some 16, .binOp .eql 9 (.tmp 15) (.const (.string ⟨#[37]⟩)) 9, some (some 14, false), false, [], false⟩,
 ⟨some 17, .pick (.tmp 14) (.const (.bool true)) (.tmp 16), none, false, [], false⟩])
 (.cond (.tmp 17)
 (.seq
 (.reg false [
 ⟨some 19, .move (.tmp 0), none, false, [], false⟩,
 ⟨some 20, .move (.tmp 1), none, false, [], false⟩,
 ⟨some 21, .move (.tmp 2), none, false, [], false⟩,
 ⟨some 22, .call ⟨.value (.func 74), #[.tmp 19, .tmp 20, .tmp 21], #[9, 2, 2]⟩, none, false, [], false⟩,
 ⟨some 18, .move (.tmp 22), none, false, [], false⟩,
 ⟨some 23, .extract (.tmp 18) 0, none, false, [], false⟩,
 ⟨some 24, .extract (.tmp 18) 1, none, false, [], false⟩,
 ⟨some 10, .assign (.tmp 23), none, false, [], false⟩,
 ⟨some 11, .assign (.tmp 24), none, false, [], false⟩])
 (.seq
 (.reg false [
 ⟨some 25, .move (.tmp 10), none, false, [], false⟩,
 ⟨some 26, .move (.tmp 11), none, false, [], false⟩,
 ⟨some 8, .assign (.tmp 25), none, false, [], false⟩,
 ⟨some 9, .assign (.tmp 26), none, false, [], false⟩])
 .ret))
 .skip))
 (.seq
 (.reg false [
 ⟨some 27, .move (.tmp 0), none, false, [], false⟩,
 ⟨some 28, .move (.tmp 1), none, false, [], false⟩,
 ⟨some 29, .move (.tmp 2), none, false, [], false⟩,
 ⟨some 30, .move (.tmp 3), none, false, [], false⟩,
 ⟨some 31, .call ⟨.value (.func 75), #[.tmp 27, .tmp 28, .tmp 29, .tmp 30], #[9, 2, 2, 3]⟩, none, false, [], false⟩,
 ⟨some 8, .assign (.tmp 31), none, false, [], false⟩,
 ⟨some 9, .assign (.const (.int .i64 0)), none, false, [], false⟩])
 .ret)))
noncomputable def fi58 : FI := ⟨c58, 32, [.tmp 8, .tmp 9], .plain⟩
noncomputable def c60 : XC :=
 (.seq
 (.reg false [
 ⟨some 1, .box 24 (.tmp 0), none, false, [], false⟩,
 ⟨some 2, .assign (.const (.slice none 0 0)), none, false, [], false⟩])
 (.seq
 (.seq
 (.reg false [
 ⟨some 3, .fieldAddr 24 (.tmp 1) 0, none, false, [], false⟩,
 ⟨some 4, .load 3 (.tmp 3), none, false, [], false⟩])
 (.block 0
 (.seq
 (.seq
 (.reg false [
 ⟨some 6, .binOp .eql 3 (.tmp 4) (.const (.int .i64 2)) 3, none, false, [], false⟩,
 ⟨some 5, .assign (.tmp 6), none, false, [], false⟩])
 (.cond (.tmp 5)
 .skip
 (.seq
 (.reg false [
 ⟨some 7, .binOp .eql 3 (.tmp 4) (.const (.int .i64 4)) 3, none, false, [], false⟩,
 ⟨some 5, .assign (.tmp 7), none, false, [], false⟩])
 (.cond (.tmp 5)
 .skip
 (.seq
 (.reg false [
 ⟨some 8, .binOp .eql 3 (.tmp 4) (.const (.int .i64 5)) 3, none, false, [], false⟩,
 ⟨some 5, .assign (.tmp 8), none, false, [], false⟩])
 (.cond (.tmp 5)
 .skip
 (.seq
 (.reg false [
 ⟨some 9, .binOp .eql 3 (.tmp 4) (.const (.int .i64 8)) 3, none, false, [], false⟩,
 ⟨some 5, .assign (.tmp 9), none, false, [], false⟩])
 (.cond (.tmp 5)
 .skip
 (.reg false [
 ⟨some 10, .binOp .eql 3 (.tmp 4) (.const (.int .i64 11)) 3, none, false, [], false⟩,
 ⟨some 5, .assign (.tmp 10), none, false, [], false⟩])))))))))
 (.cond (.tmp 5)
 (.seq
 (.reg false [
 ⟨some 11, .fieldAddr 24 (.tmp 1) 3, none, false, [], false⟩,
 ⟨some 12, .load 3 (.tmp 11), none, false, [], false⟩,
 ⟨some 13, .buildSlice 22 1 #[(0, .tmp 12)], none, false, [], false⟩,
 ⟨some 2, .assign (.tmp 13), none, false, [], false⟩])
 .ret)
 (.seq
 (.seq
 (.reg false [
 ⟨some 15, .binOp .eql 3 (.tmp 4) (.const (.int .i64 3)) 3, none, false, [], false⟩,
 ⟨some 14, .assign (.tmp 15), none, false, [], false⟩])
 (.cond (.tmp 14)
 .skip
 (.reg false [
 ⟨some 16, .binOp .eql 3 (.tmp 4) (.const (.int .i64 6)) 3, none, false, [], false⟩,
 ⟨some 14, .assign (.tmp 16), none, false, [], false⟩])))
 (.cond (.tmp 14)
 (.seq
 (.reg false [
 ⟨some 17, .fieldAddr 24 (.tmp 1) 3, none, false, [], false⟩,
 ⟨some 18, .load 3 (.tmp 17), none, false, [], false⟩,
 ⟨some 19, .fieldAddr 24 (.tmp 1) 4, none, false, [], false⟩,
 ⟨some 20, .load 3 (.tmp 19), none, false, [], false⟩,
 ⟨some 21, .buildSlice 22 2 #[(0, .tmp 18), (1, .tmp 20)], none, false, [], false⟩,
 ⟨some 2, .assign (.tmp 21), none, false, [], false⟩])
 .ret)
 (.seq
 (.reg false [
 ⟨some 23, .binOp .eql 3 (.tmp 4) (.const (.int .i64 9)) 3, none, false, [], false⟩,
 ⟨some 22, .assign (.tmp 23), none, false, [], false⟩])
 (.cond (.tmp 22)
 (.seq
 (.reg false [
 ⟨some 24, .fieldAddr 24 (.tmp 1) 7, none, false, [], false⟩,
 ⟨some 25, .load 22 (.tmp 24), none, false, [], false⟩,
 ⟨some 26, .call ⟨.value (.func 40), #[.tmp 25], #[22]⟩, none, false, [], false⟩,
 ⟨some 2, .assign (.tmp 26), none, false, [], false⟩])
 .ret)
 .skip))))))))
 (.seq
 (.reg false [
 ⟨some 2, .assign (.const (.slice none 0 0)), none, false, [], false⟩])
 .ret)))
noncomputable def fi60 : FI := ⟨c60, 27, [.tmp 2], .plain⟩
noncomputable def c61 : XC :=
 (.seq
 (.reg false [
 ⟨some 4, .assign (.const (.bool false)), none, false, [], false⟩])
 (.seq
 (.reg false [
 ⟨some 5, .move (.tmp 0), none, false, [], false⟩,
 ⟨some 6, .move (.tmp 1), none, false, [], false⟩,
 ⟨some 7, .call ⟨.value (.func 77), #[.tmp 5, .tmp 6], #[22, 3]⟩, none, false, [], false⟩,
 ⟨some 8, .binOp .geq 3 (.tmp 7) (.const (.int .i64 0)) 3, none, false, [], false⟩,
 ⟨some 4, .assign (.tmp 8), none, false, [], false⟩])
 .ret))
noncomputable def fi61 : FI := ⟨c61, 9, [.tmp 4], .plain⟩
noncomputable def c62 : XC :=
 (.seq
 (.reg false [
 ⟨some 3, .box 65 (.tmp 0), none, false, [], false⟩,
 ⟨some 6, .assign (.const (.bool false)), none, false, [], false⟩])
 (.seq
 (.reg false [
 ⟨some 7, .move (.tmp 1), none, false, [], false⟩,
 ⟨some 8, .fieldAddr 65 (.tmp 3) 0, none, false, [], false⟩,
 ⟨some 9, .fieldAddr 35 (.tmp 8) 0, none, false, [], false⟩,
 ⟨some 10, .load 32 (.tmp 9), none, false, [], false⟩,
 ⟨some 11, .call ⟨.builtin .len, #[.tmp 10], #[32]⟩, none, false, [], false⟩,
 ⟨some 12, .call ⟨.value (.func 49), #[.tmp 7, .tmp 11], #[3, 3]⟩, none, false, [], false⟩,
 ⟨some 13, .move (.tmp 12), none, false, [], false⟩,
 ⟨some 14, .fieldAddr 65 (.tmp 3) 0, some (some 13, true), false, [], false⟩,
 ⟨some 15, .fieldAddr 35 (.tmp 14) 0, some (some 13, true), false, [], false⟩,
 ⟨some 16, .load 32 (.tmp 15), some (some 13, true), false, [], false⟩,
 ⟨some 17, .move (.tmp 1), some (some 13, true), false, [], false⟩,
 ⟨some 18, .indexAddr 32 (.tmp 16) (.tmp 17), some (some 13, true), false, [], false⟩,
 ⟨some 19, .fieldAddr 44 (.tmp 18) 2, some (some 13, true), false, [], false⟩,
 ⟨some 20, .load 3 (.tmp 19), some (some 13, true), false, [], false⟩,
 ⟨some 21, .binOp .gtr 3 (.tmp 20) (.const (.int .i64 0)) 3, some (some 13, true), false, [], false⟩,
 ⟨some 22, .move (.tmp 2), some (some 13, true), false, [], false⟩,
 ⟨some 23, .binOp .eql 4 (.tmp 21) (.tmp 22) 4, some (some 13, true), false, [], false⟩,
 ⟨some 24, .pick (.tmp 13) (.tmp 23) (.const (.bool false)), none, false, [], false⟩,
 ⟨some 6, .assign (.tmp 24), none, false, [], false⟩])
 .ret))
noncomputable def fi62 : FI := ⟨c62, 25, [.tmp 6], .plain⟩
noncomputable def c63 : XC :=
 (.seq
 (.reg false [
 ⟨some 5, .assign (.const (.bool false)), none, false, [], false⟩])
 (.seq
 (.reg false [
 ⟨some 6, .fieldAddr 65 (.tmp 2) 1, none, false, [], false⟩,
 ⟨some 7, .fieldAddr 48 (.tmp 6) 3, none, false, [], false⟩,
 ⟨some 8, .load 22 (.tmp 7), none, false, [], false⟩,
 ⟨some 9, .move (.tmp 0), none, false, [], false⟩,
 ⟨some 10, .indexAddr 22 (.tmp 8) (.tmp 9), none, false, [], false⟩,
 ⟨some 11, .load 3 (.tmp 10), none, false, [], false⟩,
 ⟨some 12, .move (.tmp 1), none, false, [], false⟩,
 ⟨some 13, .binOp .eql 3 (.tmp 11) (.tmp 12) 3, none, false, [], false⟩,
 ⟨some 5, .assign (.tmp 13), none, false, [], false⟩])
 .ret))
noncomputable def fi63 : FI := ⟨c63, 14, [.tmp 5], .plain⟩
noncomputable def c64 : XC :=
 (.seq
 (.reg false [
 ⟨some 2, .assign (.const (.int .i64 0)), none, false, [], false⟩])
 (.seq
 (.seq
 (.reg false [
 ⟨some 3, .move (.tmp 0), none, false, [], false⟩,
 ⟨some 4, .binOp .eql 3 (.tmp 3) (.const (.int .i64 2)) 3, none, false, [], false⟩])
 (.cond (.tmp 4)
 (.seq
 (.reg false [
 ⟨some 2, .assign (.const (.int .i64 2)), none, false, [], false⟩])
 .ret)
 .skip))
 (.seq
 (.reg false [
 ⟨some 2, .assign (.const (.int .i64 1)), none, false, [], false⟩])
 .ret)))
noncomputable def fi64 : FI := ⟨c64, 5, [.tmp 2], .plain⟩
noncomputable def c65 : XC :=
 (.seq
 (.reg false [
 ⟨some 3, .box 65 (.tmp 0), none, false, [], false⟩,
 ⟨some 4, .box 24 (.tmp 1), none, false, [], false⟩,
 ⟨some 6, .assign (.const (.bool false)), none, false, [], false⟩])
 (.seq
 (.reg false [
 ⟨some 10, .fieldAddr 65 (.tmp 3) 0, none, false, [], false⟩,
 ⟨some 11, .fieldAddr 35 (.tmp 10) 1, none, false, [], false⟩,
 ⟨some 12, .load 33 (.tmp 11), none, false, [], false⟩,
 ⟨some 13, .fieldAddr 24 (.tmp 4) 5, none, false, [], false⟩,
 ⟨some 14, .load 3 (.tmp 13), none, false, [], false⟩,
 ⟨some 15, .indexAddr 33 (.tmp 12) (.tmp 14), none, false, [], false⟩,
 ⟨some 16, .load 48 (.tmp 15), none, false, [], false⟩,
 ⟨some 7, .alloc 48, none, false, [], false⟩,
 ⟨none, .store 48 (.tmp 7) (.tmp 16), none, false, [], false⟩])
 (.seq
 (.seq
 (.reg false [
 ⟨some 17, .fieldAddr 24 (.tmp 4) 7, none, false, [], false⟩,
 ⟨some 18, .load 22 (.tmp 17), none, false, [], false⟩,
 ⟨some 19, .call ⟨.builtin .len, #[.tmp 18], #[22]⟩, none, false, [], false⟩,
 ⟨some 20, .move (.const (.int .i64 0)), none, false, [], false⟩])
 (.block 0
 (.loop
 (.seq
 (.reg false [
 ⟨some 21, .binOp .lss 3 (.tmp 20) (.tmp 19) 3, none, false, [], false⟩])
 (.seq
 (.cond (.tmp 21)
 .skip
 (.exit 0))
 (.seq
 (.block 1
 (.seq
 (.reg false [
 ⟨some 22, .move (.tmp 20), none, false, [], false⟩,
 ⟨some 23, .indexAddr 22 (.tmp 18) (.tmp 20), none, false, [], false⟩,
 ⟨some 24, .load 3 (.tmp 23), none, false, [], false⟩,
 ⟨some 8, .assign (.tmp 22), none, false, [], false⟩,
 ⟨some 9, .assign (.tmp 24), none, false, [], false⟩])
 (.seq
 (.reg false [
 ⟨some 25, .move (.tmp 2), none, false, [], false⟩,
 ⟨some 26, .move (.tmp 9), none, false, [], false⟩,
 ⟨some 27, .fieldAddr 48 (.tmp 7) 3, none, false, [], false⟩,
 ⟨some 28, .load 22 (.tmp 27), none, false, [], false⟩,
 ⟨some 29, .move (.tmp 8), none, false, [], false⟩,
 ⟨some 30, .indexAddr 22 (.tmp 28) (.tmp 29), none, false, [], false⟩,
 ⟨some 31, .load 3 (.tmp 30), none, false, [], false⟩,
 ⟨some 32, .call ⟨.value (.tmp 25), #[.tmp 26, .tmp 31], #[3, 3]⟩, none, false, [], false⟩,
 ⟨some 33, .unOp .not 4 (.tmp 32), none, false, [], false⟩])
 (.cond (.tmp 33)
 (.seq
 (.reg false [
 ⟨some 6, .assign (.const (.bool false)), none, false, [], false⟩])
 .ret)
 .skip))))
 (.reg false [
 ⟨some 34, .binOp .add 3 (.tmp 20) (.const (.int .i64 1)) 3, none, false, [], false⟩,
 ⟨some 20, .move (.tmp 34), none, false, [], false⟩])))))))
 (.seq
 (.reg false [
 ⟨some 35, .fieldAddr 24 (.tmp 4) 2, none, false, [], false⟩,
 ⟨some 36, .load 3 (.tmp 35), none, false, [], false⟩,
 ⟨some 37, .binOp .lss 3 (.tmp 36) (.const (.int .i64 0)) 3, none, false, [], false⟩,
 ⟨some 38, .move (.tmp 37), none, false, [], false⟩,
 ⟨some 39, .fieldAddr 48 (.tmp 7) 1, some (some 38, false), false, [], false⟩,
 ⟨some 40, .load 3 (.tmp 39), some (some 38, false), false, [], false⟩,
 ⟨some 41, .binOp .neq 3 (.tmp 40) (.const (.int .i64 0)) 3, some (some 38, false), false, [], false⟩,
 ⟨some 42, .move (.tmp 41), some (some 38, false), false, [], false⟩,
 ⟨some 43, .move (.tmp 2), some (some 42, true), false, [], false⟩,
 ⟨some 44, .fieldAddr 24 (.tmp 4) 2, some (some 42, true), false, [], false⟩,
 ⟨some 45, .load 3 (.tmp 44), some (some 42, true), false, [], false⟩,
 ⟨some 46, .fieldAddr 48 (.tmp 7) 1, some (some 42, true), false, [], false⟩,
 ⟨some 47, .load 3 (.tmp 46), some (some 42, true), false, [], false⟩,
 ⟨some 48, .call ⟨.value (.tmp 43), #[.tmp 45, .tmp 47], #[3, 3]⟩, some (some 42, true), false, [], false⟩,
 ⟨some 49, .pick (.tmp 42) (.tmp 48) (.const (.bool false)), some (some 38, false), false, [], false⟩,
 ⟨some 50, .pick (.tmp 38) (.const (.bool true)) (.tmp 49), none, false, [], false⟩,
 ⟨some 6, .assign (.tmp 50), none, false, [], false⟩])
 .ret))))
noncomputable def fi65 : FI := ⟨c65, 51, [.tmp 6], .plain⟩
noncomputable def c72 : XC :=
 (.seq
 (.reg false [
 ⟨some 6, .assign (.const (.int .i32 0)), none, false, [], false⟩,
 ⟨some 7, .assign (.const (.int .i64 0)), none, false, [], false⟩])
 (.seq
 (.block 0
 (.seq
 (.reg false [
 ⟨some 9, .move (.tmp 2), none, false, [], false⟩,
 ⟨some 10, .binOp .eql 21 (.tmp 9) (.const (.int .i32 0)) 21, none, false, [], false⟩,
 ⟨some 8, .assign (.tmp 10), none, false, [], false⟩])
 (.cond (.tmp 8)
 (.seq
 (.reg false [
 ⟨some 6, .assign (.const (.int .i32 0)), none, false, [], false⟩,
 ⟨some 7, .assign (.const (.int .i64 1)), none, false, [], false⟩])
 .ret)
 (.seq
 (.reg false [
 ⟨some 12, .move (.tmp 0), none, false, [], false⟩,
 ⟨some 13, .binOp .eql 9 (.tmp 12) (.const (.string ⟨#[37]⟩)) 9, none, false, [], false⟩,
 ⟨some 14, .move (.tmp 13), none, false, [], false⟩,
 ⟨some 15, .move (.tmp 2), some (some 14, true), false, [], false⟩,
 ⟨some 16, .binOp .eql 21 (.tmp 15) (.const (.int .i32 (-1))) 21, some (some 14, true), false, [], false⟩,
 ⟨some 17, .pick (.tmp 14) (.tmp 16) (.const (.bool false)), none, false, [], false⟩,
 ⟨some 11, .assign (.tmp 17), none, false, [], false⟩])
 (.cond (.tmp 11)
 (.seq
 (.reg false [
 ⟨some 6, .assign (.const (.int .i32 0)), none, false, [], false⟩,
 ⟨some 7, .assign (.const (.int .i64 0)), none, false, [], false⟩])
 .ret)
 (.seq
 (.reg false [
 ⟨some 19, .move (.tmp 0), none, false, [], false⟩,
 ⟨some 20, .binOp .eql 9 (.tmp 19) (.const (.string ⟨#[37]⟩)) 9, none, false, [], false⟩,
 ⟨some 18, .assign (.tmp 20), none, false, [], false⟩])
 (.cond (.tmp 18)
 (.seq
 (.reg false [
 ⟨some 21, .move (.tmp 1), none, false, [], false⟩,
 ⟨some 22, .move (.tmp 2), none, false, [], false⟩,
 ⟨some 23, .binOp .rem 21 (.tmp 21) (.tmp 22) 21, none, false, [], false⟩,
 ⟨some 6, .assign (.tmp 23), none, false, [], false⟩,
 ⟨some 7, .assign (.const (.int .i64 0)), none, false, [], false⟩])
 .ret)
 (.seq
 (.reg false [
 ⟨some 25, .move (.tmp 2), none, false, [], false⟩,
 ⟨some 26, .binOp .eql 21 (.tmp 25) (.const (.int .i32 (-1))) 21, none, false, [], false⟩,
 ⟨some 27, .move (.tmp 26), none, false, [], false⟩,
 ⟨some 28, .move (.tmp 1), some (some 27, true), false, [], false⟩,
 ⟨some 29, .binOp .neq 21 (.tmp 28) (.const (.int .i32 0)) 21, some (some 27, true), false, [], false⟩,
 ⟨some 30, .pick (.tmp 27) (.tmp 29) (.const (.bool false)), none, false, [], false⟩,
 ⟨some 31, .move (.tmp 30), none, false, [], false⟩,
 ⟨some 32, .move (.tmp 1), some (some 31, true), false, [], false⟩,
 ⟨some 33, .unOp .neg 21 (.tmp 32), some (some 31, true), false, [], false⟩,
 ⟨some 34, .move (.tmp 1), some (some 31, true), false, [], false⟩,
 ⟨some 35, .binOp .eql 21 (.tmp 33) (.tmp 34) 21, some (some 31, true), false, [], false⟩,
 ⟨some 36, .pick (.tmp 31) (.tmp 35) (.const (.bool false)), none, false, [], false⟩,
 ⟨some 24, .assign (.tmp 36), none, false, [], false⟩])
 (.cond (.tmp 24)
 (.seq
 (.reg false [
 ⟨some 6, .assign (.const (.int .i32 0)), none, false, [], false⟩,
 ⟨some 7, .assign (.const (.int .i64 2)), none, false, [], false⟩])
 .ret)
 .skip)))))))))
 (.seq
 (.reg false [
 ⟨some 37, .move (.tmp 1), none, false, [], false⟩,
 ⟨some 38, .move (.tmp 2), none, false, [], false⟩,
 ⟨some 39, .binOp .quo 21 (.tmp 37) (.tmp 38) 21, none, false, [], false⟩,
 ⟨some 6, .assign (.tmp 39), none, false, [], false⟩,
 ⟨some 7, .assign (.const (.int .i64 0)), none, false, [], false⟩])
 .ret)))
noncomputable def fi72 : FI := ⟨c72, 40, [.tmp 6, .tmp 7], .plain⟩
noncomputable def c73 : XC :=
 (.seq
 (.reg false [
 ⟨some 8, .assign (.const (.int .i32 0)), none, false, [], false⟩])
 (.seq
 (.reg false [
 ⟨some 10, .move (.tmp 2), none, false, [], false⟩,
 ⟨some 11, .convert 21 132 (.tmp 10), none, false, [], false⟩,
 ⟨some 12, .move (.tmp 3), none, false, [], false⟩,
 ⟨some 13, .binOp .sub 3 (.tmp 12) (.const (.int .i64 1)) 3, none, false, [], false⟩,
 ⟨some 14, .convert 3 132 (.tmp 13), none, false, [], false⟩,
 ⟨some 15, .binOp .and 132 (.tmp 11) (.tmp 14) 132, none, false, [], false⟩,
 ⟨some 9, .assign (.tmp 15), none, false, [], false⟩])
 (.seq
 (.seq
 (.reg false [
 ⟨some 16, .move (.tmp 0), none, false, [], false⟩])
 (.block 0
 (.seq
 (.reg false [
 ⟨some 18, .binOp .eql 9 (.tmp 16) (.const (.string ⟨#[43]⟩)) 9, none, false, [], false⟩,
 ⟨some 17, .assign (.tmp 18), none, false, [], false⟩])
 (.cond (.tmp 17)
 (.seq
 (.reg false [
 ⟨some 19, .move (.tmp 1), none, false, [], false⟩,
 ⟨some 20, .move (.tmp 2), none, false, [], false⟩,
 ⟨some 21, .binOp .add 21 (.tmp 19) (.tmp 20) 21, none, false, [], false⟩,
 ⟨some 8, .assign (.tmp 21), none, false, [], false⟩])
 .ret)
 (.seq
 (.reg false [
 ⟨some 23, .binOp .eql 9 (.tmp 16) (.const (.string ⟨#[45]⟩)) 9, none, false, [], false⟩,
 ⟨some 22, .assign (.tmp 23), none, false, [], false⟩])
 (.cond (.tmp 22)
 (.seq
 (.reg false [
 ⟨some 24, .move (.tmp 1), none, false, [], false⟩,
 ⟨some 25, .move (.tmp 2), none, false, [], false⟩,
 ⟨some 26, .binOp .sub 21 (.tmp 24) (.tmp 25) 21, none, false, [], false⟩,
 ⟨some 8, .assign (.tmp 26), none, false, [], false⟩])
 .ret)
 (.seq
 (.reg false [
 ⟨some 28, .binOp .eql 9 (.tmp 16) (.const (.string ⟨#[42]⟩)) 9, none, false, [], false⟩,
 ⟨some 27, .assign (.tmp 28), none, false, [], false⟩])
 (.cond (.tmp 27)
 (.seq
 (.reg false [
 ⟨some 29, .move (.tmp 1), none, false, [], false⟩,
 ⟨some 30, .move (.tmp 2), none, false, [], false⟩,
 ⟨some 31, .binOp .mul 21 (.tmp 29) (.tmp 30) 21, none, false, [], false⟩,
 ⟨some 8, .assign (.tmp 31), none, false, [], false⟩])
 .ret)
 (.seq
 (.reg false [
 ⟨some 33, .binOp .eql 9 (.tmp 16) (.const (.string ⟨#[38]⟩)) 9, none, false, [], false⟩,
 ⟨some 32, .assign (.tmp 33), none, false, [], false⟩])
 (.cond (.tmp 32)
 (.seq
 (.reg false [
 ⟨some 34, .move (.tmp 1), none, false, [], false⟩,
 ⟨some 35, .move (.tmp 2), none, false, [], false⟩,
 ⟨some 36, .binOp .and 21 (.tmp 34) (.tmp 35) 21, none, false, [], false⟩,
 ⟨some 8, .assign (.tmp 36), none, false, [], false⟩])
 .ret)
 (.seq
 (.reg false [
 ⟨some 38, .binOp .eql 9 (.tmp 16) (.const (.string ⟨#[124]⟩)) 9, none, false, [], false⟩,
 ⟨some 37, .assign (.tmp 38), none, false, [], false⟩])
 (.cond (.tmp 37)
 (.seq
 (.reg false [
 ⟨some 39, .move (.tmp 1), none, false, [], false⟩,
 ⟨some 40, .move (.tmp 2), none, false, [], false⟩,
 ⟨some 41, .binOp .or 21 (.tmp 39) (.tmp 40) 21, none, false, [], false⟩,
 ⟨some 8, .assign (.tmp 41), none, false, [], false⟩])
 .ret)
 (.seq
 (.reg false [
 ⟨some 43, .binOp .eql 9 (.tmp 16) (.const (.string ⟨#[94]⟩)) 9, none, false, [], false⟩,
 ⟨some 42, .assign (.tmp 43), none, false, [], false⟩])
 (.cond (.tmp 42)
 (.seq
 (.reg false [
 ⟨some 44, .move (.tmp 1), none, false, [], false⟩,
 ⟨some 45, .move (.tmp 2), none, false, [], false⟩,
 ⟨some 46, .binOp .xor 21 (.tmp 44) (.tmp 45) 21, none, false, [], false⟩,
 ⟨some 8, .assign (.tmp 46), none, false, [], false⟩])
 .ret)
 (.seq
 (.reg false [
 ⟨some 48, .binOp .eql 9 (.tmp 16) (.const (.string ⟨#[60, 60]⟩)) 9, none, false, [], false⟩,
 ⟨some 47, .assign (.tmp 48), none, false, [], false⟩])
 (.cond (.tmp 47)
 (.seq
 (.reg false [
 ⟨some 49, .move (.tmp 1), none, false, [], false⟩,
 ⟨some 50, .move (.tmp 9), none, false, [], false⟩,
 ⟨some 51, .binOp .shl 21 (.tmp 49) (.tmp 50) 132, none, false, [], false⟩,
 ⟨some 8, .assign (.tmp 51), none, false, [], false⟩])
 .ret)
 (.seq
 (.reg false [
 ⟨some 53, .binOp .eql 9 (.tmp 16) (.const (.string ⟨#[62, 62]⟩)) 9, none, false, [], false⟩,
 ⟨some 52, .assign (.tmp 53), none, false, [], false⟩])
 (.cond (.tmp 52)
 (.seq
 (.reg false [
 ⟨some 54, .move (.tmp 1), none, false, [], false⟩,
 ⟨some 55, .move (.tmp 9), none, false, [], false⟩,
 ⟨some 56, .binOp .shr 21 (.tmp 54) (.tmp 55) 132, none, false, [], false⟩,
 ⟨some 8, .assign (.tmp 56), none, false, [], false⟩])
 .ret)
 (.seq
 (.reg false [
 ⟨some 58, .binOp .eql 9 (.tmp 16) (.const (.string ⟨#[61, 61]⟩)) 9, none, false, [], false⟩,
 ⟨some 57, .assign (.tmp 58), none, false, [], false⟩])
 (.cond (.tmp 57)
 (.seq
 (.reg false [
 ⟨some 59, .move (.tmp 1), none, false, [], false⟩,
 ⟨some 60, .move (.tmp 2), none, false, [], false⟩,
 ⟨some 61, .binOp .eql 21 (.tmp 59) (.tmp 60) 21, none, false, [], false⟩,
 ⟨some 62, .call ⟨.value (.func 80), #[.tmp 61], #[4]⟩, none, false, [], false⟩,
 ⟨some 8, .assign (.tmp 62), none, false, [], false⟩])
 .ret)
 (.seq
 (.reg false [
 ⟨some 64, .binOp .eql 9 (.tmp 16) (.const (.string ⟨#[33, 61]⟩)) 9, none, false, [], false⟩,
 ⟨some 63, .assign (.tmp 64), none, false, [], false⟩])
 (.cond (.tmp 63)
 (.seq
 (.reg false [
 ⟨some 65, .move (.tmp 1), none, false, [], false⟩,
 ⟨some 66, .move (.tmp 2), none, false, [], false⟩,
 ⟨some 67, .binOp .neq 21 (.tmp 65) (.tmp 66) 21, none, false, [], false⟩,
 ⟨some 68, .call ⟨.value (.func 80), #[.tmp 67], #[4]⟩, none, false, [], false⟩,
 ⟨some 8, .assign (.tmp 68), none, false, [], false⟩])
 .ret)
 (.seq
 (.reg false [
 ⟨some 70, .binOp .eql 9 (.tmp 16) (.const (.string ⟨#[60]⟩)) 9, none, false, [], false⟩,
 ⟨some 69, .assign (.tmp 70), none, false, [], false⟩])
 (.cond (.tmp 69)
 (.seq
 (.reg false [
 ⟨some 71, .move (.tmp 1), none, false, [], false⟩,
 ⟨some 72, .move (.tmp 2), none, false, [], false⟩,
 ⟨some 73, .binOp .lss 21 (.tmp 71) (.tmp 72) 21, none, false, [], false⟩,
 ⟨some 74, .call ⟨.value (.func 80), #[.tmp 73], #[4]⟩, none, false, [], false⟩,
 ⟨some 8, .assign (.tmp 74), none, false, [], false⟩])
 .ret)
 (.seq
 (.reg false [
 ⟨some 76, .binOp .eql 9 (.tmp 16) (.const (.string ⟨#[60, 61]⟩)) 9, none, false, [], false⟩,
 ⟨some 75, .assign (.tmp 76), none, false, [], false⟩])
 (.cond (.tmp 75)
 (.seq
 (.reg false [
 ⟨some 77, .move (.tmp 1), none, false, [], false⟩,
 ⟨some 78, .move (.tmp 2), none, false, [], false⟩,
 ⟨some 79, .binOp .leq 21 (.tmp 77) (.tmp 78) 21, none, false, [], false⟩,
 ⟨some 80, .call ⟨.value (.func 80), #[.tmp 79], #[4]⟩, none, false, [], false⟩,
 ⟨some 8, .assign (.tmp 80), none, false, [], false⟩])
 .ret)
 (.seq
 (.reg false [
 ⟨some 82, .binOp .eql 9 (.tmp 16) (.const (.string ⟨#[62]⟩)) 9, none, false, [], false⟩,
 ⟨some 81, .assign (.tmp 82), none, false, [], false⟩])
 (.cond (.tmp 81)
 (.seq
 (.reg false [
 ⟨some 83, .move (.tmp 1), none, false, [], false⟩,
 ⟨some 84, .move (.tmp 2), none, false, [], false⟩,
 ⟨some 85, .binOp .gtr 21 (.tmp 83) (.tmp 84) 21, none, false, [], false⟩,
 ⟨some 86, .call ⟨.value (.func 80), #[.tmp 85], #[4]⟩, none, false, [], false⟩,
 ⟨some 8, .assign (.tmp 86), none, false, [], false⟩])
 .ret)
 (.seq
 (.reg false [
 ⟨some 88, .binOp .eql 9 (.tmp 16) (.const (.string ⟨#[62, 61]⟩)) 9, none, false, [], false⟩,
 ⟨some 87, .assign (.tmp 88), none, false, [], false⟩])
 (.cond (.tmp 87)
 (.seq
 (.reg false [
 ⟨some 89, .move (.tmp 1), none, false, [], false⟩,
 ⟨some 90, .move (.tmp 2), none, false, [], false⟩,
 ⟨some 91, .binOp .geq 21 (.tmp 89) (.tmp 90) 21, none, false, [], false⟩,
 ⟨some 92, .call ⟨.value (.func 80), #[.tmp 91], #[4]⟩, none, false, [], false⟩,
 ⟨some 8, .assign (.tmp 92), none, false, [], false⟩])
 .ret)
 .skip))))))))))))))))))))))))))))))
 (.seq
 (.reg false [
 ⟨some 8, .assign (.const (.int .i32 0)), none, false, [], false⟩])
 .ret))))
noncomputable def fi73 : FI := ⟨c73, 93, [.tmp 8], .plain⟩
noncomputable def c74 : XC :=
 (.seq
 (.reg false [
 ⟨some 6, .assign (.const (.int .i64 0)), none, false, [], false⟩,
 ⟨some 7, .assign (.const (.int .i64 0)), none, false, [], false⟩])
 (.seq
 (.block 0
 (.seq
 (.reg false [
 ⟨some 9, .move (.tmp 2), none, false, [], false⟩,
 ⟨some 10, .binOp .eql 2 (.tmp 9) (.const (.int .i64 0)) 2, none, false, [], false⟩,
 ⟨some 8, .assign (.tmp 10), none, false, [], false⟩])
 (.cond (.tmp 8)
 (.seq
 (.reg false [
 ⟨some 6, .assign (.const (.int .i64 0)), none, false, [], false⟩,
 ⟨some 7, .assign (.const (.int .i64 1)), none, false, [], false⟩])
 .ret)
 (.seq
 (.reg false [
 ⟨some 12, .move (.tmp 0), none, false, [], false⟩,
 ⟨some 13, .binOp .eql 9 (.tmp 12) (.const (.string ⟨#[37]⟩)) 9, none, false, [], false⟩,
 ⟨some 14, .move (.tmp 13), none, false, [], false⟩,
 ⟨some 15, .move (.tmp 2), some (some 14, true), false, [], false⟩,
 ⟨some 16, .binOp .eql 2 (.tmp 15) (.const (.int .i64 (-1))) 2, some (some 14, true), false, [], false⟩,
 ⟨some 17, .pick (.tmp 14) (.tmp 16) (.const (.bool false)), none, false, [], false⟩,
 ⟨some 11, .assign (.tmp 17), none, false, [], false⟩])
 (.cond (.tmp 11)
 (.seq
 (.reg false [
 ⟨some 6, .assign (.const (.int .i64 0)), none, false, [], false⟩,
 ⟨some 7, .assign (.const (.int .i64 0)), none, false, [], false⟩])
 .ret)
 (.seq
 (.reg false [
 ⟨some 19, .move (.tmp 0), none, false, [], false⟩,
 ⟨some 20, .binOp .eql 9 (.tmp 19) (.const (.string ⟨#[37]⟩)) 9, none, false, [], false⟩,
 ⟨some 18, .assign (.tmp 20), none, false, [], false⟩])
 (.cond (.tmp 18)
 (.seq
 (.reg false [
 ⟨some 21, .move (.tmp 1), none, false, [], false⟩,
 ⟨some 22, .move (.tmp 2), none, false, [], false⟩,
 ⟨some 23, .binOp .rem 2 (.tmp 21) (.tmp 22) 2, none, false, [], false⟩,
 ⟨some 6, .assign (.tmp 23), none, false, [], false⟩,
 ⟨some 7, .assign (.const (.int .i64 0)), none, false, [], false⟩])
 .ret)
 (.seq
 (.reg false [
 ⟨some 25, .move (.tmp 2), none, false, [], false⟩,
 ⟨some 26, .binOp .eql 2 (.tmp 25) (.const (.int .i64 (-1))) 2, none, false, [], false⟩,
 ⟨some 27, .move (.tmp 26), none, false, [], false⟩,
 ⟨some 28, .move (.tmp 1), some (some 27, true), false, [], false⟩,
 ⟨some 29, .binOp .neq 2 (.tmp 28) (.const (.int .i64 0)) 2, some (some 27, true), false, [], false⟩,
 ⟨some 30, .pick (.tmp 27) (.tmp 29) (.const (.bool false)), none, false, [], false⟩,
 ⟨some 31, .move (.tmp 30), none, false, [], false⟩,
 ⟨some 32, .move (.tmp 1), some (some 31, true), false, [], false⟩,
 ⟨some 33, .unOp .neg 2 (.tmp 32), some (some 31, true), false, [], false⟩,
 ⟨some 34, .move (.tmp 1), some (some 31, true), false, [], false⟩,
 ⟨some 35, .binOp .eql 2 (.tmp 33) (.tmp 34) 2, some (some 31, true), false, [], false⟩,
 ⟨some 36, .pick (.tmp 31) (.tmp 35) (.const (.bool false)), none, false, [], false⟩,
 ⟨some 24, .assign (.tmp 36), none, false, [], false⟩])
 (.cond (.tmp 24)
 (.seq
 (.reg false [
 ⟨some 6, .assign (.const (.int .i64 0)), none, false, [], false⟩,
 ⟨some 7, .assign (.const (.int .i64 2)), none, false, [], false⟩])
 .ret)
 .skip)))))))))
 (.seq
 (.reg false [
 ⟨some 37, .move (.tmp 1), none, false, [], false⟩,
 ⟨some 38, .move (.tmp 2), none, false, [], false⟩,
 ⟨some 39, .binOp .quo 2 (.tmp 37) (.tmp 38) 2, none, false, [], false⟩,
 ⟨some 6, .assign (.tmp 39), none, false, [], false⟩,
 ⟨some 7, .assign (.const (.int .i64 0)), none, false, [], false⟩])
 .ret)))
noncomputable def fi74 : FI := ⟨c74, 40, [.tmp 6, .tmp 7], .plain⟩
noncomputable def c75 : XC :=
 (.seq
 (.reg false [
 ⟨some 8, .assign (.const (.int .i64 0)), none, false, [], false⟩])
 (.seq
 (.reg false [
 ⟨some 10, .move (.tmp 2), none, false, [], false⟩,
 ⟨some 11, .convert 2 132 (.tmp 10), none, false, [], false⟩,
 ⟨some 12, .move (.tmp 3), none, false, [], false⟩,
 ⟨some 13, .binOp .sub 3 (.tmp 12) (.const (.int .i64 1)) 3, none, false, [], false⟩,
 ⟨some 14, .convert 3 132 (.tmp 13), none, false, [], false⟩,
 ⟨some 15, .binOp .and 132 (.tmp 11) (.tmp 14) 132, none, false, [], false⟩,
 ⟨some 9, .assign (.tmp 15), none, false, [], false⟩])
 (.seq
 (.seq
 (.reg false [
 ⟨some 16, .move (.tmp 0), none, false, [], false⟩])
 (.block 0
 (.seq
 (.reg false [
 ⟨some 18, .binOp .eql 9 (.tmp 16) (.const (.string ⟨#[43]⟩)) 9, none, false, [], false⟩,
 ⟨some 17, .assign (.tmp 18), none, false, [], false⟩])
 (.cond (.tmp 17)
 (.seq
 (.reg false [
 ⟨some 19, .move (.tmp 1), none, false, [], false⟩,
 ⟨some 20, .move (.tmp 2), none, false, [], false⟩,
 ⟨some 21, .binOp .add 2 (.tmp 19) (.tmp 20) 2, none, false, [], false⟩,
 ⟨some 8, .assign (.tmp 21), none, false, [], false⟩])
 .ret)
 (.seq
 (.reg false [
 ⟨some 23, .binOp .eql 9 (.tmp 16) (.const (.string ⟨#[45]⟩)) 9, none, false, [], false⟩,
 ⟨some 22, .assign (.tmp 23), none, false, [], false⟩])
 (.cond (.tmp 22)
 (.seq
 (.reg false [
 ⟨some 24, .move (.tmp 1), none, false, [], false⟩,
 ⟨some 25, .move (.tmp 2), none, false, [], false⟩,
 ⟨some 26, .binOp .sub 2 (.tmp 24) (.tmp 25) 2, none, false, [], false⟩,
 ⟨some 8, .assign (.tmp 26), none, false, [], false⟩])
 .ret)
 (.seq
 (.reg false [
 ⟨some 28, .binOp .eql 9 (.tmp 16) (.const (.string ⟨#[42]⟩)) 9, none, false, [], false⟩,
 ⟨some 27, .assign (.tmp 28), none, false, [], false⟩])
 (.cond (.tmp 27)
 (.seq
 (.reg false [
 ⟨some 29, .move (.tmp 1), none, false, [], false⟩,
 ⟨some 30, .move (.tmp 2), none, false, [], false⟩,
 ⟨some 31, .binOp .mul 2 (.tmp 29) (.tmp 30) 2, none, false, [], false⟩,
 ⟨some 8, .assign (.tmp 31), none, false, [], false⟩])
 .ret)
 (.seq
 (.reg false [
 ⟨some 33, .binOp .eql 9 (.tmp 16) (.const (.string ⟨#[38]⟩)) 9, none, false, [], false⟩,
 ⟨some 32, .assign (.tmp 33), none, false, [], false⟩])
 (.cond (.tmp 32)
 (.seq
 (.reg false [
 ⟨some 34, .move (.tmp 1), none, false, [], false⟩,
 ⟨some 35, .move (.tmp 2), none, false, [], false⟩,
 ⟨some 36, .binOp .and 2 (.tmp 34) (.tmp 35) 2, none, false, [], false⟩,
 ⟨some 8, .assign (.tmp 36), none, false, [], false⟩])
 .ret)
 (.seq
 (.reg false [
 ⟨some 38, .binOp .eql 9 (.tmp 16) (.const (.string ⟨#[124]⟩)) 9, none, false, [], false⟩,
 ⟨some 37, .assign (.tmp 38), none, false, [], false⟩])
 (.cond (.tmp 37)
 (.seq
 (.reg false [
 ⟨some 39, .move (.tmp 1), none, false, [], false⟩,
 ⟨some 40, .move (.tmp 2), none, false, [], false⟩,
 ⟨some 41, .binOp .or 2 (.tmp 39) (.tmp 40) 2, none, false, [], false⟩,
 ⟨some 8, .assign (.tmp 41), none, false, [], false⟩])
 .ret)
 (.seq
 (.reg false [
 ⟨some 43, .binOp .eql 9 (.tmp 16) (.const (.string ⟨#[94]⟩)) 9, none, false, [], false⟩,
 ⟨some 42, .assign (.tmp 43), none, false, [], false⟩])
 (.cond (.tmp 42)
 (.seq
 (.reg false [
 ⟨some 44, .move (.tmp 1), none, false, [], false⟩,
 ⟨some 45, .move (.tmp 2), none, false, [], false⟩,
 ⟨some 46, .binOp .xor 2 (.tmp 44) (.tmp 45) 2, none, false, [], false⟩,
 ⟨some 8, .assign (.tmp 46), none, false, [], false⟩])
 .ret)
 (.seq
 (.reg false [
 ⟨some 48, .binOp .eql 9 (.tmp 16) (.const (.string ⟨#[60, 60]⟩)) 9, none, false, [], false⟩,
 ⟨some 47, .assign (.tmp 48), none, false, [], false⟩])
 (.cond (.tmp 47)
 (.seq
 (.reg false [
 ⟨some 49, .move (.tmp 1), none, false, [], false⟩,
 ⟨some 50, .move (.tmp 9), none, false, [], false⟩,
 ⟨some 51, .binOp .shl 2 (.tmp 49) (.tmp 50) 132, none, false, [], false⟩,
 ⟨some 8, .assign (.tmp 51), none, false, [], false⟩])
 .ret)
 (.seq
 (.reg false [
 ⟨some 53, .binOp .eql 9 (.tmp 16) (.const (.string ⟨#[62, 62]⟩)) 9, none, false, [], false⟩,
 ⟨some 52, .assign (.tmp 53), none, false, [], false⟩])
 (.cond (.tmp 52)
 (.seq
 (.reg false [
 ⟨some 54, .move (.tmp 1), none, false, [], false⟩,
 ⟨some 55, .move (.tmp 9), none, false, [], false⟩,
 ⟨some 56, .binOp .shr 2 (.tmp 54) (.tmp 55) 132, none, false, [], false⟩,
 ⟨some 8, .assign (.tmp 56), none, false, [], false⟩])
 .ret)
 (.seq
 (.reg false [
 ⟨some 58, .binOp .eql 9 (.tmp 16) (.const (.string ⟨#[61, 61]⟩)) 9, none, false, [], false⟩,
 ⟨some 57, .assign (.tmp 58), none, false, [], false⟩])
 (.cond (.tmp 57)
 (.seq
 (.reg false [
 ⟨some 59, .move (.tmp 1), none, false, [], false⟩,
 ⟨some 60, .move (.tmp 2), none, false, [], false⟩,
 ⟨some 61, .binOp .eql 2 (.tmp 59) (.tmp 60) 2, none, false, [], false⟩,
 ⟨some 62, .call ⟨.value (.func 81), #[.tmp 61], #[4]⟩, none, false, [], false⟩,
 ⟨some 8, .assign (.tmp 62), none, false, [], false⟩])
 .ret)
 (.seq
 (.reg false [
 ⟨some 64, .binOp .eql 9 (.tmp 16) (.const (.string ⟨#[33, 61]⟩)) 9, none, false, [], false⟩,
 ⟨some 63, .assign (.tmp 64), none, false, [], false⟩])
 (.cond (.tmp 63)
 (.seq
 (.reg false [
 ⟨some 65, .move (.tmp 1), none, false, [], false⟩,
 ⟨some 66, .move (.tmp 2), none, false, [], false⟩,
 ⟨some 67, .binOp .neq 2 (.tmp 65) (.tmp 66) 2, none, false, [], false⟩,
 ⟨some 68, .call ⟨.value (.func 81), #[.tmp 67], #[4]⟩, none, false, [], false⟩,
 ⟨some 8, .assign (.tmp 68), none, false, [], false⟩])
 .ret)
 (.seq
 (.reg false [
 ⟨some 70, .binOp .eql 9 (.tmp 16) (.const (.string ⟨#[60]⟩)) 9, none, false, [], false⟩,
 ⟨some 69, .assign (.tmp 70), none, false, [], false⟩])
 (.cond (.tmp 69)
 (.seq
 (.reg false [
 ⟨some 71, .move (.tmp 1), none, false, [], false⟩,
 ⟨some 72, .move (.tmp 2), none, false, [], false⟩,
 ⟨some 73, .binOp .lss 2 (.tmp 71) (.tmp 72) 2, none, false, [], false⟩,
 ⟨some 74, .call ⟨.value (.func 81), #[.tmp 73], #[4]⟩, none, false, [], false⟩,
 ⟨some 8, .assign (.tmp 74), none, false, [], false⟩])
 .ret)
 (.seq
 (.reg false [
 ⟨some 76, .binOp .eql 9 (.tmp 16) (.const (.string ⟨#[60, 61]⟩)) 9, none, false, [], false⟩,
 ⟨some 75, .assign (.tmp 76), none, false, [], false⟩])
 (.cond (.tmp 75)
 (.seq
 (.reg false [
 ⟨some 77, .move (.tmp 1), none, false, [], false⟩,
 ⟨some 78, .move (.tmp 2), none, false, [], false⟩,
 ⟨some 79, .binOp .leq 2 (.tmp 77) (.tmp 78) 2, none, false, [], false⟩,
 ⟨some 80, .call ⟨.value (.func 81), #[.tmp 79], #[4]⟩, none, false, [], false⟩,
 ⟨some 8, .assign (.tmp 80), none, false, [], false⟩])
 .ret)
 (.seq
 (.reg false [
 ⟨some 82, .binOp .eql 9 (.tmp 16) (.const (.string ⟨#[62]⟩)) 9, none, false, [], false⟩,
 ⟨some 81, .assign (.tmp 82), none, false, [], false⟩])
 (.cond (.tmp 81)
 (.seq
 (.reg false [
 ⟨some 83, .move (.tmp 1), none, false, [], false⟩,
 ⟨some 84, .move (.tmp 2), none, false, [], false⟩,
 ⟨some 85, .binOp .gtr 2 (.tmp 83) (.tmp 84) 2, none, false, [], false⟩,
 ⟨some 86, .call ⟨.value (.func 81), #[.tmp 85], #[4]⟩, none, false, [], false⟩,
 ⟨some 8, .assign (.tmp 86), none, false, [], false⟩])
 .ret)
 (.seq
 (.reg false [
 ⟨some 88, .binOp .eql 9 (.tmp 16) (.const (.string ⟨#[62, 61]⟩)) 9, none, false, [], false⟩,
 ⟨some 87, .assign (.tmp 88), none, false, [], false⟩])
 (.cond (.tmp 87)
 (.seq
 (.reg false [
 ⟨some 89, .move (.tmp 1), none, false, [], false⟩,
 ⟨some 90, .move (.tmp 2), none, false, [], false⟩,
 ⟨some 91, .binOp .geq 2 (.tmp 89) (.tmp 90) 2, none, false, [], false⟩,
 ⟨some 92, .call ⟨.value (.func 81), #[.tmp 91], #[4]⟩, none, false, [], false⟩,
 ⟨some 8, .assign (.tmp 92), none, false, [], false⟩])
 .ret)
 .skip))))))))))))))))))))))))))))))
 (.seq
 (.reg false [
 ⟨some 8, .assign (.const (.int .i64 0)), none, false, [], false⟩])
 .ret))))
noncomputable def fi75 : FI := ⟨c75, 93, [.tmp 8], .plain⟩
noncomputable def c77 : XC :=
 (.seq
 (.reg false [
 ⟨some 4, .assign (.const (.int .i64 0)), none, false, [], false⟩])
 (.seq
 (.seq
 (.reg false [
 ⟨some 6, .move (.tmp 0), none, false, [], false⟩,
 ⟨some 7, .call ⟨.builtin .len, #[.tmp 6], #[22]⟩, none, false, [], false⟩,
 ⟨some 8, .move (.const (.int .i64 0)), none, false, [], false⟩])
 (.block 0
 (.loop
 (.seq
 (.reg false [
 ⟨some 9, .binOp .lss 3 (.tmp 8) (.tmp 7) 3, none, false, [], false⟩])
 (.seq
 (.cond (.tmp 9)
 .skip
 (.exit 0))
 (.seq
 (.block 1
 (.seq
 (.reg false [
 ⟨some 10, .move (.tmp 8), none, false, [], false⟩,
 ⟨some 5, .assign (.tmp 10), none, false, [], false⟩])
 (.seq
 (.reg false [
 ⟨some 11, .move (.tmp 1), none, false, [], false⟩,
 ⟨some 12, .move (.tmp 0), none, false, [], false⟩,
 ⟨some 13, .move (.tmp 5), none, false, [], false⟩,
 ⟨some 14, .indexAddr 22 (.tmp 12) (.tmp 13), none, false, [], false⟩,
 ⟨some 15, .load 3 (.tmp 14), none, false, [], false⟩,
 ⟨some 16, .binOp .eql 3 (.tmp 11) (.tmp 15) 3, none, false, [], false⟩])
 (.cond (.tmp 16)
 (.seq
 (.reg false [
 ⟨some 17, .move (.tmp 5), none, false, [], false⟩,
 ⟨some 4, .assign (.tmp 17), none, false, [], false⟩])
 .ret)
 .skip))))
 (.reg false [
 ⟨some 18, .binOp .add 3 (.tmp 8) (.const (.int .i64 1)) 3, none, false, [], false⟩,
 ⟨some 8, .move (.tmp 18), none, false, [], false⟩])))))))
 (.seq
 (.reg false [
 ⟨some 4, .assign (.const (.int .i64 (-1))), none, false, [], false⟩])
 .ret)))
noncomputable def fi77 : FI := ⟨c77, 19, [.tmp 4], .plain⟩
noncomputable def c80 : XC :=
 (.seq
 (.reg false [
 ⟨some 2, .assign (.const (.int .i32 0)), none, false, [], false⟩])
 (.seq
 (.seq
 (.reg false [
 ⟨some 3, .move (.tmp 0), none, false, [], false⟩])
 (.cond (.tmp 3)
 (.seq
 (.reg false [
 ⟨some 2, .assign (.const (.int .i32 1)), none, false, [], false⟩])
 .ret)
 .skip))
 (.seq
 (.reg false [
 ⟨some 2, .assign (.const (.int .i32 0)), none, false, [], false⟩])
 .ret)))
noncomputable def fi80 : FI := ⟨c80, 4, [.tmp 2], .plain⟩
noncomputable def c81 : XC :=
 (.seq
 (.reg false [
 ⟨some 2, .assign (.const (.int .i64 0)), none, false, [], false⟩])
 (.seq
 (.seq
 (.reg false [
 ⟨some 3, .move (.tmp 0), none, false, [], false⟩])
 (.cond (.tmp 3)
 (.seq
 (.reg false [
 ⟨some 2, .assign (.const (.int .i64 1)), none, false, [], false⟩])
 .ret)
 .skip))
 (.seq
 (.reg false [
 ⟨some 2, .assign (.const (.int .i64 0)), none, false, [], false⟩])
 .ret)))
noncomputable def fi81 : FI := ⟨c81, 4, [.tmp 2], .plain⟩
end Go.Proofs.AmEnv
