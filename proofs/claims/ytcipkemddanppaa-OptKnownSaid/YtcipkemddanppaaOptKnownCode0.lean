/- The code of this program's functions, as the abstract machine goes over it. Conditions: none. -/
import Derived.Test.YtcipkemddanppaaAmSix
set_option maxRecDepth 100000
namespace Go.Proofs.AmEnv
open Go Go.AM
noncomputable def c3 : XC :=
 (.seq
 (.reg false [
 ⟨some 0, .assign (.const (.bool false)), none, false, [], false⟩])
 (.seq
 (.reg false [
 ⟨some 11, .call ⟨.value (.func 4), #[.const (.int .i64 1), .const (.int .i64 0)], #[3, 3]⟩, none, false, [], false⟩,
 ⟨some 12, .call ⟨.value (.func 5), #[.const (.int .i64 0), .const (.int .i64 5)], #[3, 3]⟩, none, false, [], false⟩,
 ⟨some 13, .call ⟨.value (.func 4), #[.const (.int .i64 2), .const (.int .i64 1)], #[3, 3]⟩, none, false, [], false⟩,
 ⟨some 14, .buildSlice 26 3 #[(0, .tmp 11), (1, .tmp 12), (2, .tmp 13)], none, false, [], false⟩,
 ⟨some 1, .assign (.tmp 14), none, false, [], false⟩])
 (.seq
 (.reg false [
 ⟨some 15, .move (.tmp 1), none, false, [], false⟩,
 ⟨some 16, .call ⟨.value (.func 6), #[.tmp 15], #[26]⟩, none, false, [], false⟩,
 ⟨some 2, .alloc 30, none, false, [], false⟩,
 ⟨none, .store 30 (.tmp 2) (.tmp 16), none, false, [], false⟩])
 (.seq
 (.reg false [
 ⟨some 17, .call ⟨.value (.func 4), #[.const (.int .i64 1), .const (.int .i64 0)], #[3, 3]⟩, none, false, [], false⟩,
 ⟨some 18, .call ⟨.value (.func 7), #[.const (.int .i64 2), .const (.string ⟨#[43]⟩), .const (.int .i64 1), .const (.int .i64 1)], #[3, 9, 3, 3]⟩, none, false, [], false⟩,
 ⟨some 19, .buildSlice 26 2 #[(0, .tmp 17), (1, .tmp 18)], none, false, [], false⟩,
 ⟨some 20, .call ⟨.value (.func 6), #[.tmp 19], #[26]⟩, none, false, [], false⟩,
 ⟨some 3, .alloc 30, none, false, [], false⟩,
 ⟨none, .store 30 (.tmp 3) (.tmp 20), none, false, [], false⟩])
 (.seq
 (.reg false [
 ⟨some 21, .call ⟨.value (.func 5), #[.const (.int .i64 0), .const (.int .i64 1)], #[3, 3]⟩, none, false, [], false⟩,
 ⟨some 22, .call ⟨.value (.func 5), #[.const (.int .i64 1), .const (.int .i64 0)], #[3, 3]⟩, none, false, [], false⟩,
 ⟨some 23, .call ⟨.value (.func 7), #[.const (.int .i64 2), .const (.string ⟨#[47]⟩), .const (.int .i64 0), .const (.int .i64 1)], #[3, 9, 3, 3]⟩, none, false, [], false⟩,
 ⟨some 24, .buildSlice 26 3 #[(0, .tmp 21), (1, .tmp 22), (2, .tmp 23)], none, false, [], false⟩,
 ⟨some 4, .assign (.tmp 24), none, false, [], false⟩])
 (.seq
 (.reg false [
 ⟨some 25, .move (.tmp 4), none, false, [], false⟩,
 ⟨some 26, .call ⟨.value (.func 6), #[.tmp 25], #[26]⟩, none, false, [], false⟩,
 ⟨some 5, .alloc 30, none, false, [], false⟩,
 ⟨none, .store 30 (.tmp 5) (.tmp 26), none, false, [], false⟩])
 (.seq
 (.seq
 (.reg true [
 ⟨some 27, .fieldAddr 30 (.tmp 2) 0, none, false, [], false⟩,
 ⟨some 28, .load 26 (.tmp 27), none, false, [], false⟩,
 ⟨some 29, .move (.tmp 1), none, false, [], false⟩,
 ⟨some 30, .call ⟨.value (.func 8), #[.tmp 28, .tmp 29], #[26, 26]⟩, none, false, [true, true, true, true, true, true, true, true, true, true, true, true, true, true, true, true, true, true, true, true, true, true, true, true, true, true, true, true, true], false⟩,
 ⟨some 31, .unOp .not 4 (.tmp 30), none, false, [], false⟩,
 ⟨some 32, .move (.tmp 31), none, false, [], false⟩,
 ⟨some 33, .fieldAddr 30 (.tmp 2) 1, some (some 32, false), false, [], false⟩,
 ⟨some 34, .fieldAddr 28 (.tmp 33) 0, some (some 32, false), false, [], false⟩,
 ⟨some 35, .load 3 (.tmp 34), some (some 32, false), false, [], false⟩,
 ⟨some 36, .binOp .neq 3 (.tmp 35) (.const (.int .i64 2)) 3, some (some 32, false), false, [], false⟩,
 ⟨some 37, .pick (.tmp 32) (.const (.bool true)) (.tmp 36), none, false, [], false⟩,
 ⟨some 38, .move (.tmp 37), none, false, [], false⟩,
 ⟨some 39, .fieldAddr 30 (.tmp 2) 1, some (some 38, false), false, [], false⟩,
 ⟨some 40, .fieldAddr 28 (.tmp 39) 1, some (some 38, false), false, [], false⟩,
 ⟨some 41, .load 3 (.tmp 40), some (some 38, false), false, [], false⟩,
 ⟨some 42, .binOp .neq 3 (.tmp 41) (.const (.int .i64 1)) 3, some (some 38, false), false, [], false⟩,
 ⟨some 43, .pick (.tmp 38) (.const (.bool true)) (.tmp 42), none, false, [], false⟩,
 ⟨some 44, .move (.tmp 43), none, false, [], false⟩,
 ⟨some 47, .call ⟨.value (.func 4), #[.const (.int .i64 1), .const (.int .i64 0)], #[3, 3]⟩, some (some 44, false), true, [true, true, false, false, true, true, true, true, true, true, true, true, true, true], false⟩,
 ⟨some 48, .call ⟨.value (.func 7), #[.const (.int .i64 2), .const (.string ⟨#[43]⟩), .const (.int .i64 0), .const (.int .i64 0)], #[3, 9, 3, 3]⟩, some (some 44, false), true, [true, false, false, true, true, true, true, true, true, true, true, true, true], false⟩,
 ⟨some 49, .buildSlice 26 2 #[(0, .tmp 47), (1, .tmp 48)], some (some 44, false), false, [], false⟩,
 ⟨some 45, .fieldAddr 30 (.tmp 3) 0, some (some 44, false), false, [], false⟩,
 ⟨some 46, .load 26 (.tmp 45), some (some 44, false), false, [], true⟩,
 ⟨some 50, .call ⟨.value (.func 8), #[.tmp 46, .tmp 49], #[26, 26]⟩, some (some 44, false), false, [true, true, true, true, true, true, true, true, true], false⟩,
 ⟨some 51, .unOp .not 4 (.tmp 50), some (some 44, false), false, [], false⟩,
 ⟨some 52, .pick (.tmp 44) (.const (.bool true)) (.tmp 51), none, false, [], false⟩,
 ⟨some 53, .move (.tmp 52), none, false, [], false⟩,
 ⟨some 54, .fieldAddr 30 (.tmp 5) 0, some (some 53, false), false, [], false⟩,
 ⟨some 55, .load 26 (.tmp 54), some (some 53, false), false, [], false⟩,
 ⟨some 56, .move (.tmp 4), some (some 53, false), false, [], false⟩,
 ⟨some 57, .call ⟨.value (.func 8), #[.tmp 55, .tmp 56], #[26, 26]⟩, some (some 53, false), false, [true, true], false⟩,
 ⟨some 58, .unOp .not 4 (.tmp 57), some (some 53, false), false, [], false⟩,
 ⟨some 59, .pick (.tmp 53) (.const (.bool true)) (.tmp 58), none, false, [], false⟩])
 (.cond (.tmp 59)
 (.seq
 (.reg false [
 ⟨some 0, .assign (.const (.bool false)), none, false, [], false⟩])
 .ret)
 .skip))
 (.seq
 (.reg false [
 ⟨some 60, .call ⟨.value (.func 5), #[.const (.int .i64 2), .const (.int .i64 0)], #[3, 3]⟩, none, false, [], false⟩,
 ⟨some 61, .buildSlice 26 1 #[(0, .tmp 60)], none, false, [], false⟩,
 ⟨some 62, .call ⟨.value (.func 6), #[.tmp 61], #[26]⟩, none, false, [], false⟩,
 ⟨some 6, .alloc 30, none, false, [], false⟩,
 ⟨none, .store 30 (.tmp 6) (.tmp 62), none, false, [], false⟩])
 (.seq
 (.reg false [
 ⟨some 63, .call ⟨.value (.func 9), #[.const (.slice none 0 0)], #[26]⟩, none, false, [], false⟩,
 ⟨some 7, .alloc 36, none, false, [], false⟩,
 ⟨none, .store 36 (.tmp 7) (.tmp 63), none, false, [], false⟩])
 (.seq
 (.reg false [
 ⟨some 64, .fieldAddr 36 (.tmp 7) 4, none, false, [], false⟩,
 ⟨some 65, .load 34 (.tmp 64), none, false, [], false⟩,
 ⟨some 66, .build 28 #[(0, .const (.int .i64 2)), (1, .const (.int .i64 2)), (2, .const (.int .i64 2)), (3, .const (.int .i64 2))], none, false, [], false⟩,
 ⟨some 67, .indexAddr 34 (.tmp 65) (.const (.int .i64 0)), none, false, [], false⟩,
 ⟨some 68, .fieldAddr 30 (.tmp 67) 1, none, false, [], false⟩,
 ⟨none, .store 28 (.tmp 68) (.tmp 66), none, false, [], false⟩])
 (.seq
 (.reg false [
 ⟨some 69, .load 36 (.tmp 7), none, false, [], false⟩,
 ⟨some 70, .call ⟨.value (.func 10), #[.tmp 69], #[36]⟩, none, false, [], false⟩,
 ⟨some 8, .alloc 36, none, false, [], false⟩,
 ⟨none, .store 36 (.tmp 8) (.tmp 70), none, false, [], false⟩])
 (.seq
 (.reg false [
 ⟨some 71, .call ⟨.value (.func 5), #[.const (.int .i64 2), .const (.int .i64 1)], #[3, 3]⟩, none, false, [], false⟩,
 ⟨some 72, .call ⟨.value (.func 5), #[.const (.int .i64 2), .const (.int .i64 2)], #[3, 3]⟩, none, false, [], false⟩,
 ⟨some 73, .call ⟨.value (.func 5), #[.const (.int .i64 3), .const (.int .i64 7)], #[3, 3]⟩, none, false, [], false⟩,
 ⟨some 74, .call ⟨.value (.func 7), #[.const (.int .i64 1), .const (.string ⟨#[47]⟩), .const (.int .i64 0), .const (.int .i64 0)], #[3, 9, 3, 3]⟩, none, false, [], false⟩,
 ⟨some 75, .call ⟨.value (.func 7), #[.const (.int .i64 3), .const (.string ⟨#[43]⟩), .const (.int .i64 0), .const (.int .i64 0)], #[3, 9, 3, 3]⟩, none, false, [], false⟩,
 ⟨some 76, .buildSlice 26 5 #[(0, .tmp 71), (1, .tmp 72), (2, .tmp 73), (3, .tmp 74), (4, .tmp 75)], none, false, [], false⟩,
 ⟨some 77, .call ⟨.value (.func 9), #[.tmp 76], #[26]⟩, none, false, [], false⟩,
 ⟨some 78, .call ⟨.value (.func 11), #[.tmp 77], #[36]⟩, none, false, [], false⟩,
 ⟨some 9, .alloc 36, none, false, [], false⟩,
 ⟨none, .store 36 (.tmp 9) (.tmp 78), none, false, [], false⟩])
 (.seq
 (.reg false [
 ⟨some 79, .build 24 #[(0, .const (.int .i64 9)), (5, .const (.int .i64 0)), (2, .const (.int .i64 3))], none, false, [], false⟩,
 ⟨some 80, .build 24 #[(0, .const (.int .i64 9)), (5, .const (.int .i64 0)), (2, .const (.int .i64 2))], none, false, [], false⟩,
 ⟨some 81, .buildSlice 26 2 #[(0, .tmp 79), (1, .tmp 80)], none, false, [], false⟩,
 ⟨some 82, .call ⟨.value (.func 9), #[.tmp 81], #[26]⟩, none, false, [], false⟩,
 ⟨some 83, .call ⟨.value (.func 11), #[.tmp 82], #[36]⟩, none, false, [], false⟩,
 ⟨some 10, .alloc 36, none, false, [], false⟩,
 ⟨none, .store 36 (.tmp 10) (.tmp 83), none, false, [], false⟩])
 (.seq
 (.seq
 (.reg false [
 ⟨some 84, .fieldAddr 36 (.tmp 9) 4, none, false, [], false⟩,
 ⟨some 85, .load 34 (.tmp 84), none, false, [], false⟩,
 ⟨some 86, .call ⟨.builtin .len, #[.tmp 85], #[34]⟩, none, false, [], false⟩,
 ⟨some 87, .binOp .neq 3 (.tmp 86) (.const (.int .i64 3)) 3, none, false, [], false⟩,
 ⟨some 88, .move (.tmp 87), none, false, [], false⟩,
 ⟨some 89, .fieldAddr 36 (.tmp 10) 4, some (some 88, false), false, [], false⟩,
 ⟨some 90, .load 34 (.tmp 89), some (some 88, false), false, [], false⟩,
 ⟨some 91, .call ⟨.builtin .len, #[.tmp 90], #[34]⟩, some (some 88, false), false, [], false⟩,
 ⟨some 92, .binOp .neq 3 (.tmp 91) (.const (.int .i64 3)) 3, some (some 88, false), false, [], false⟩,
 ⟨some 93, .pick (.tmp 88) (.const (.bool true)) (.tmp 92), none, false, [], false⟩,
 ⟨some 94, .move (.tmp 93), none, false, [], false⟩,
 ⟨some 95, .fieldAddr 36 (.tmp 10) 4, some (some 94, false), false, [], false⟩,
 ⟨some 96, .load 34 (.tmp 95), some (some 94, false), false, [], false⟩,
 ⟨some 97, .indexAddr 34 (.tmp 96) (.const (.int .i64 0)), some (some 94, false), false, [], false⟩,
 ⟨some 98, .fieldAddr 30 (.tmp 97) 0, some (some 94, false), false, [], false⟩,
 ⟨some 99, .load 26 (.tmp 98), some (some 94, false), false, [], false⟩,
 ⟨some 100, .call ⟨.builtin .len, #[.tmp 99], #[26]⟩, some (some 94, false), false, [], false⟩,
 ⟨some 101, .binOp .neq 3 (.tmp 100) (.const (.int .i64 2)) 3, some (some 94, false), false, [], false⟩,
 ⟨some 102, .pick (.tmp 94) (.const (.bool true)) (.tmp 101), none, false, [], false⟩,
 ⟨some 103, .move (.tmp 102), none, false, [], false⟩,
 ⟨some 104, .fieldAddr 36 (.tmp 8) 4, some (some 103, false), false, [], false⟩,
 ⟨some 105, .load 34 (.tmp 104), some (some 103, false), false, [], false⟩,
 ⟨some 106, .call ⟨.builtin .len, #[.tmp 105], #[34]⟩, some (some 103, false), false, [], false⟩,
 ⟨some 107, .binOp .neq 3 (.tmp 106) (.const (.int .i64 3)) 3, some (some 103, false), false, [], false⟩,
 ⟨some 108, .pick (.tmp 103) (.const (.bool true)) (.tmp 107), none, false, [], false⟩])
 (.cond (.tmp 108)
 (.seq
 (.reg false [
 ⟨some 0, .assign (.const (.bool false)), none, false, [], false⟩])
 .ret)
 .skip))
 (.seq
 (.reg true [
 ⟨some 109, .fieldAddr 30 (.tmp 6) 1, none, false, [], false⟩,
 ⟨some 110, .load 28 (.tmp 109), none, false, [], false⟩,
 ⟨some 111, .build 28 #[(0, .const (.int .i64 1)), (2, .const (.int .i64 2))], none, false, [], false⟩,
 ⟨some 112, .binOp .eql 28 (.tmp 110) (.tmp 111) 28, none, false, [], false⟩,
 ⟨some 113, .move (.tmp 112), none, false, [], false⟩,
 ⟨some 114, .fieldAddr 36 (.tmp 8) 4, some (some 113, true), false, [], false⟩,
 ⟨some 115, .load 34 (.tmp 114), some (some 113, true), false, [], false⟩,
 ⟨some 116, .indexAddr 34 (.tmp 115) (.const (.int .i64 0)), some (some 113, true), false, [], false⟩,
 ⟨some 117, .fieldAddr 30 (.tmp 116) 1, some (some 113, true), false, [], false⟩,
 ⟨some 118, .load 28 (.tmp 117), some (some 113, true), false, [], false⟩,
 ⟨some 119, .build 28 #[(0, .const (.int .i64 1)), (2, .const (.int .i64 2))], some (some 113, true), false, [], false⟩,
 ⟨some 120, .binOp .eql 28 (.tmp 118) (.tmp 119) 28, some (some 113, true), false, [], false⟩,
 ⟨some 121, .pick (.tmp 113) (.tmp 120) (.const (.bool false)), none, false, [], false⟩,
 ⟨some 122, .move (.tmp 121), none, false, [], false⟩,
 ⟨some 128, .call ⟨.value (.func 5), #[.const (.int .i64 2), .const (.int .i64 2)], #[3, 3]⟩, some (some 122, true), true, [true, true, false, false, false, false, false, true, true, true, true, true, true, true, true, true, true, true, true, true, true, true, true, true, true, true, true, true, true, true, true, true, true, true, true], false⟩,
 ⟨some 129, .call ⟨.value (.func 7), #[.const (.int .i64 1), .const (.string ⟨#[47]⟩), .const (.int .i64 0), .const (.int .i64 0)], #[3, 9, 3, 3]⟩, some (some 122, true), true, [true, false, false, false, false, false, true, true, true, true, true, true, true, true, true, true, true, true, true, true, true, true, true, true, true, true, true, true, true, true, true, true, true, true], false⟩,
 ⟨some 130, .buildSlice 26 2 #[(0, .tmp 128), (1, .tmp 129)], some (some 122, true), false, [], false⟩,
 ⟨some 123, .fieldAddr 36 (.tmp 9) 4, some (some 122, true), false, [], false⟩,
 ⟨some 124, .load 34 (.tmp 123), some (some 122, true), false, [], true⟩,
 ⟨some 125, .indexAddr 34 (.tmp 124) (.const (.int .i64 0)), some (some 122, true), false, [], false⟩,
 ⟨some 126, .fieldAddr 30 (.tmp 125) 0, some (some 122, true), false, [], false⟩,
 ⟨some 127, .load 26 (.tmp 126), some (some 122, true), false, [], true⟩,
 ⟨some 131, .call ⟨.value (.func 8), #[.tmp 127, .tmp 130], #[26, 26]⟩, some (some 122, true), false, [true, true, true, true, true, true, true, true, true, true, true, true, true, true, true, true, true, true, true, true, true, true, true, true, true, true, true], false⟩,
 ⟨some 132, .pick (.tmp 122) (.tmp 131) (.const (.bool false)), none, false, [], false⟩,
 ⟨some 133, .move (.tmp 132), none, false, [], false⟩,
 ⟨some 134, .fieldAddr 36 (.tmp 10) 4, some (some 133, true), false, [], false⟩,
 ⟨some 135, .load 34 (.tmp 134), some (some 133, true), false, [], false⟩,
 ⟨some 136, .indexAddr 34 (.tmp 135) (.const (.int .i64 0)), some (some 133, true), false, [], false⟩,
 ⟨some 137, .fieldAddr 30 (.tmp 136) 0, some (some 133, true), false, [], false⟩,
 ⟨some 138, .load 26 (.tmp 137), some (some 133, true), false, [], false⟩,
 ⟨some 139, .indexAddr 26 (.tmp 138) (.const (.int .i64 0)), some (some 133, true), false, [], false⟩,
 ⟨some 140, .fieldAddr 24 (.tmp 139) 2, some (some 133, true), false, [], false⟩,
 ⟨some 141, .load 3 (.tmp 140), some (some 133, true), false, [], false⟩,
 ⟨some 142, .binOp .eql 3 (.tmp 141) (.const (.int .i64 (-1))) 3, some (some 133, true), false, [], false⟩,
 ⟨some 143, .pick (.tmp 133) (.tmp 142) (.const (.bool false)), none, false, [], false⟩,
 ⟨some 144, .move (.tmp 143), none, false, [], false⟩,
 ⟨some 145, .fieldAddr 36 (.tmp 10) 4, some (some 144, true), false, [], false⟩,
 ⟨some 146, .load 34 (.tmp 145), some (some 144, true), false, [], false⟩,
 ⟨some 147, .indexAddr 34 (.tmp 146) (.const (.int .i64 0)), some (some 144, true), false, [], false⟩,
 ⟨some 148, .fieldAddr 30 (.tmp 147) 0, some (some 144, true), false, [], false⟩,
 ⟨some 149, .load 26 (.tmp 148), some (some 144, true), false, [], false⟩,
 ⟨some 150, .indexAddr 26 (.tmp 149) (.const (.int .i64 1)), some (some 144, true), false, [], false⟩,
 ⟨some 151, .fieldAddr 24 (.tmp 150) 2, some (some 144, true), false, [], false⟩,
 ⟨some 152, .load 3 (.tmp 151), some (some 144, true), false, [], false⟩,
 ⟨some 153, .binOp .eql 3 (.tmp 152) (.const (.int .i64 2)) 3, some (some 144, true), false, [], false⟩,
 ⟨some 154, .pick (.tmp 144) (.tmp 153) (.const (.bool false)), none, false, [], false⟩,
 ⟨some 155, .move (.tmp 154), none, false, [], false⟩,
 ⟨some 156, .call ⟨.value (.func 12), #[], #[]⟩, some (some 155, true), false, [true, true], false⟩,
 ⟨some 157, .pick (.tmp 155) (.tmp 156) (.const (.bool false)), none, false, [], false⟩,
 ⟨some 0, .assign (.tmp 157), none, false, [], false⟩])
 .ret)))))))))))))))
noncomputable def fi3 : FI := ⟨c3, 158, [.tmp 0], .plain⟩
noncomputable def c4 : XC :=
 (.seq
 (.reg false [
 ⟨some 4, .alloc 24, none, false, [], false⟩])
 (.seq
 (.reg false [
 ⟨some 5, .move (.tmp 0), none, false, [], false⟩,
 ⟨some 6, .move (.tmp 1), none, false, [], false⟩,
 ⟨some 7, .build 24 #[(0, .const (.int .i64 2)), (2, .tmp 5), (3, .tmp 6)], none, false, [], false⟩,
 ⟨none, .store 24 (.tmp 4) (.tmp 7), none, false, [], false⟩])
 .ret))
noncomputable def fi4 : FI := ⟨c4, 8, [.cell 4 24], .plain⟩
noncomputable def c5 : XC :=
 (.seq
 (.reg false [
 ⟨some 4, .alloc 24, none, false, [], false⟩])
 (.seq
 (.reg false [
 ⟨some 5, .move (.tmp 0), none, false, [], false⟩,
 ⟨some 6, .move (.tmp 1), none, false, [], false⟩,
 ⟨some 7, .build 24 #[(0, .const (.int .i64 1)), (2, .tmp 5), (5, .tmp 6)], none, false, [], false⟩,
 ⟨none, .store 24 (.tmp 4) (.tmp 7), none, false, [], false⟩])
 .ret))
noncomputable def fi5 : FI := ⟨c5, 8, [.cell 4 24], .plain⟩
noncomputable def c6 : XC :=
 (.seq
 (.reg false [
 ⟨some 2, .alloc 30, none, false, [], false⟩])
 (.seq
 (.reg false [
 ⟨some 4, .move (.tmp 0), none, false, [], false⟩,
 ⟨some 5, .call ⟨.value (.func 9), #[.tmp 4], #[26]⟩, none, false, [], false⟩,
 ⟨some 6, .call ⟨.value (.func 10), #[.tmp 5], #[36]⟩, none, false, [], false⟩,
 ⟨some 3, .alloc 36, none, false, [], false⟩,
 ⟨none, .store 36 (.tmp 3) (.tmp 6), none, false, [], false⟩])
 (.seq
 (.seq
 (.reg false [
 ⟨some 7, .fieldAddr 36 (.tmp 3) 4, none, false, [], false⟩,
 ⟨some 8, .load 34 (.tmp 7), none, false, [], false⟩,
 ⟨some 9, .call ⟨.builtin .len, #[.tmp 8], #[34]⟩, none, false, [], false⟩,
 ⟨some 10, .binOp .neq 3 (.tmp 9) (.const (.int .i64 3)) 3, none, false, [], false⟩])
 (.cond (.tmp 10)
 (.seq
 (.reg false [
 ⟨some 11, .build 30 #[], none, false, [], false⟩,
 ⟨none, .store 30 (.tmp 2) (.tmp 11), none, false, [], false⟩])
 .ret)
 .skip))
 (.seq
 (.reg false [
 ⟨some 12, .fieldAddr 36 (.tmp 3) 4, none, false, [], false⟩,
 ⟨some 13, .load 34 (.tmp 12), none, false, [], false⟩,
 ⟨some 14, .indexAddr 34 (.tmp 13) (.const (.int .i64 0)), none, false, [], false⟩,
 ⟨some 15, .load 30 (.tmp 14), none, false, [], false⟩,
 ⟨none, .store 30 (.tmp 2) (.tmp 15), none, false, [], false⟩])
 .ret))))
noncomputable def fi6 : FI := ⟨c6, 16, [.cell 2 30], .plain⟩
noncomputable def c7 : XC :=
 (.seq
 (.reg false [
 ⟨some 8, .alloc 24, none, false, [], false⟩])
 (.seq
 (.reg false [
 ⟨some 9, .move (.tmp 1), none, false, [], false⟩,
 ⟨some 10, .move (.tmp 0), none, false, [], false⟩,
 ⟨some 11, .move (.tmp 2), none, false, [], false⟩,
 ⟨some 12, .move (.tmp 3), none, false, [], false⟩,
 ⟨some 13, .build 24 #[(0, .const (.int .i64 3)), (1, .const (.int .i64 1)), (6, .tmp 9), (2, .tmp 10), (3, .tmp 11), (4, .tmp 12)], none, false, [], false⟩,
 ⟨none, .store 24 (.tmp 8) (.tmp 13), none, false, [], false⟩])
 .ret))
noncomputable def fi7 : FI := ⟨c7, 14, [.cell 8 24], .plain⟩
noncomputable def c8 : XC :=
 (.seq
 (.reg false [
 ⟨some 4, .assign (.const (.bool false)), none, false, [], false⟩])
 (.seq
 (.seq
 (.reg false [
 ⟨some 6, .move (.tmp 0), none, false, [], false⟩,
 ⟨some 7, .call ⟨.builtin .len, #[.tmp 6], #[26]⟩, none, false, [], false⟩,
 ⟨some 8, .move (.tmp 1), none, false, [], false⟩,
 ⟨some 9, .call ⟨.builtin .len, #[.tmp 8], #[26]⟩, none, false, [], false⟩,
 ⟨some 10, .binOp .neq 3 (.tmp 7) (.tmp 9) 3, none, false, [], false⟩])
 (.cond (.tmp 10)
 (.seq
 (.reg false [
 ⟨some 4, .assign (.const (.bool false)), none, false, [], false⟩])
 .ret)
 .skip))
 (.seq
 (.seq
 (.reg false [
 ⟨some 5, .assign (.const (.int .i64 0)), none, false, [], false⟩])
 (.block 0
 (.loop
 (.seq
 (.seq
 (.reg false [
 ⟨some 11, .move (.tmp 5), none, false, [], false⟩,
 ⟨some 12, .move (.tmp 0), none, false, [], false⟩,
 ⟨some 13, .call ⟨.builtin .len, #[.tmp 12], #[26]⟩, none, false, [], false⟩,
 ⟨some 14, .binOp .lss 3 (.tmp 11) (.tmp 13) 3, none, false, [], false⟩])
 (.cond (.tmp 14)
 .skip
 (.exit 0)))
 (.seq
 (.block 1
 (.seq
 (.reg true [
 ⟨some 17, .move (.tmp 0), none, false, [], false⟩,
 ⟨some 18, .move (.tmp 5), none, false, [], false⟩,
 ⟨some 19, .indexAddr 26 (.tmp 17) (.tmp 18), none, false, [], false⟩,
 ⟨some 20, .load 24 (.tmp 19), none, false, [], false⟩,
 ⟨some 21, .move (.tmp 1), none, false, [], false⟩,
 ⟨some 22, .move (.tmp 5), none, false, [], false⟩,
 ⟨some 23, .indexAddr 26 (.tmp 21) (.tmp 22), none, false, [], false⟩,
 ⟨some 24, .load 24 (.tmp 23), none, false, [], false⟩,
 ⟨some 25, .call ⟨.value (.func 13), #[.tmp 20, .tmp 24], #[24, 24]⟩, none, false, [true], false⟩,
 ⟨some 26, .unOp .not 4 (.tmp 25), none, false, [], false⟩])
 (.cond (.tmp 26)
 (.seq
 (.reg false [
 ⟨some 4, .assign (.const (.bool false)), none, false, [], false⟩])
 .ret)
 .skip)))
 (.reg false [
 ⟨some 15, .move (.tmp 5), none, false, [], false⟩,
 ⟨some 16, .binOp .add 3 (.tmp 15) (.const (.int .i64 1)) 3, none, false, [], false⟩,
 ⟨some 5, .assign (.tmp 16), none, false, [], false⟩]))))))
 (.seq
 (.reg false [
 ⟨some 4, .assign (.const (.bool true)), none, false, [], false⟩])
 .ret))))
noncomputable def fi8 : FI := ⟨c8, 27, [.tmp 4], .plain⟩
noncomputable def c9 : XC :=
 (.seq
 (.reg false [
 ⟨some 2, .alloc 36, none, false, [], false⟩])
 (.seq
 (.reg false [
 ⟨some 3, .buildSlice 22 4 #[(0, .const (.int .i64 1)), (1, .const (.int .i64 1)), (2, .const (.int .i64 1)), (3, .const (.int .i64 1))], none, false, [], false⟩,
 ⟨some 4, .move (.tmp 0), none, false, [], false⟩,
 ⟨some 5, .build 28 #[(0, .const (.int .i64 2)), (1, .const (.int .i64 2)), (2, .const (.int .i64 1)), (3, .const (.int .i64 2))], none, false, [], false⟩,
 ⟨some 6, .build 30 #[(0, .tmp 4), (1, .tmp 5)], none, false, [], false⟩,
 ⟨some 7, .build 28 #[(0, .const (.int .i64 3)), (1, .const (.int .i64 2))], none, false, [], false⟩,
 ⟨some 8, .build 30 #[(1, .tmp 7)], none, false, [], false⟩,
 ⟨some 9, .build 28 #[(0, .const (.int .i64 3)), (1, .const (.int .i64 0))], none, false, [], false⟩,
 ⟨some 10, .build 30 #[(1, .tmp 9)], none, false, [], false⟩,
 ⟨some 11, .buildSlice 34 3 #[(0, .tmp 6), (1, .tmp 8), (2, .tmp 10)], none, false, [], false⟩,
 ⟨some 12, .build 36 #[(0, .const (.string ⟨#[109, 97, 105, 110]⟩)), (1, .const (.int .i64 1)), (3, .tmp 3), (4, .tmp 11)], none, false, [], false⟩,
 ⟨none, .store 36 (.tmp 2) (.tmp 12), none, false, [], false⟩])
 .ret))
noncomputable def fi9 : FI := ⟨c9, 13, [.cell 2 36], .plain⟩
noncomputable def c10 : XC :=
 (.seq
 (.reg false [
 ⟨some 1, .box 36 (.tmp 0), none, false, [], false⟩,
 ⟨some 2, .alloc 36, none, false, [], false⟩])
 (.seq
 (.reg false [
 ⟨some 10, .load 36 (.tmp 1), none, false, [], false⟩,
 ⟨some 11, .call ⟨.value (.func 14), #[.tmp 10], #[36]⟩, none, false, [], false⟩,
 ⟨none, .store 36 (.tmp 1) (.tmp 11), none, false, [], false⟩])
 (.seq
 (.reg false [
 ⟨some 12, .load 36 (.tmp 1), none, false, [], false⟩,
 ⟨some 13, .makeMap 42 none, none, false, [], false⟩,
 ⟨some 14, .build 44 #[(0, .tmp 12), (1, .tmp 13)], none, false, [], false⟩,
 ⟨some 15, .box 44 (.tmp 14), none, false, [], false⟩,
 ⟨some 3, .assign (.tmp 15), none, false, [], false⟩])
 (.seq
 (.seq
 (.reg false [
 ⟨some 16, .fieldAddr 36 (.tmp 1) 4, none, false, [], false⟩,
 ⟨some 17, .load 34 (.tmp 16), none, false, [], false⟩,
 ⟨some 18, .call ⟨.builtin .len, #[.tmp 17], #[34]⟩, none, false, [], false⟩,
 ⟨some 19, .move (.const (.int .i64 0)), none, false, [], false⟩])
 (.block 0
 (.loop
 (.seq
 (.reg false [
 ⟨some 20, .binOp .lss 3 (.tmp 19) (.tmp 18) 3, none, false, [], false⟩])
 (.seq
 (.cond (.tmp 20)
 .skip
 (.exit 0))
 (.seq
 (.block 1
 (.seq
 (.reg false [
 ⟨some 21, .move (.tmp 19), none, false, [], false⟩,
 ⟨some 4, .assign (.tmp 21), none, false, [], false⟩])
 (.seq
 (.reg false [
 ⟨some 22, .fieldAddr 36 (.tmp 1) 4, none, false, [], false⟩,
 ⟨some 23, .load 34 (.tmp 22), none, false, [], false⟩,
 ⟨some 24, .move (.tmp 4), none, false, [], false⟩,
 ⟨some 25, .indexAddr 34 (.tmp 23) (.tmp 24), none, false, [], false⟩,
 ⟨some 5, .assign (.tmp 25), none, false, [], false⟩])
 (.seq
 (.reg false [
 ⟨some 26, .move (.tmp 3), none, false, [], false⟩,
 ⟨some 27, .nilCheck (.tmp 26), none, false, [], false⟩,
 ⟨some 28, .fieldAddr 44 (.tmp 27) 1, none, false, [], false⟩,
 ⟨some 29, .load 42 (.tmp 28), none, false, [], false⟩,
 ⟨none, .call ⟨.builtin .clear, #[.tmp 29], #[42]⟩, none, false, [], false⟩])
 (.seq
 (.seq
 (.reg false [
 ⟨some 30, .move (.tmp 5), none, false, [], false⟩,
 ⟨some 31, .nilCheck (.tmp 30), none, false, [], false⟩,
 ⟨some 32, .fieldAddr 30 (.tmp 31) 0, none, false, [], false⟩,
 ⟨some 33, .load 26 (.tmp 32), none, false, [], false⟩,
 ⟨some 34, .call ⟨.builtin .len, #[.tmp 33], #[26]⟩, none, false, [], false⟩,
 ⟨some 35, .move (.const (.int .i64 0)), none, false, [], false⟩])
 (.block 2
 (.loop
 (.seq
 (.reg false [
 ⟨some 36, .binOp .lss 3 (.tmp 35) (.tmp 34) 3, none, false, [], false⟩])
 (.seq
 (.cond (.tmp 36)
 .skip
 (.exit 2))
 (.seq
 (.block 3
 (.seq
 (.reg false [
 ⟨some 37, .move (.tmp 35), none, false, [], false⟩,
 ⟨some 6, .assign (.tmp 37), none, false, [], false⟩])
 (.seq
 (.reg false [
 ⟨some 38, .move (.tmp 5), none, false, [], false⟩,
 ⟨some 39, .nilCheck (.tmp 38), none, false, [], false⟩,
 ⟨some 40, .fieldAddr 30 (.tmp 39) 0, none, false, [], false⟩,
 ⟨some 41, .load 26 (.tmp 40), none, false, [], false⟩,
 ⟨some 42, .move (.tmp 6), none, false, [], false⟩,
 ⟨some 43, .indexAddr 26 (.tmp 41) (.tmp 42), none, false, [], false⟩,
 ⟨some 7, .assign (.tmp 43), none, false, [], false⟩])
 (.seq
 (.reg false [
 ⟨some 44, .move (.tmp 3), none, false, [], false⟩,
 ⟨some 45, .move (.tmp 7), none, false, [], false⟩,
 ⟨some 46, .call ⟨.value (.func 15), #[.tmp 44, .tmp 45], #[41, 46]⟩, none, false, [], false⟩])
 (.seq
 (.seq
 (.reg false [
 ⟨some 48, .move (.tmp 3), none, false, [], false⟩,
 ⟨some 49, .move (.tmp 7), none, false, [], false⟩,
 ⟨some 50, .nilCheck (.tmp 49), none, false, [], false⟩,
 ⟨some 51, .load 24 (.tmp 50), none, false, [], false⟩,
 ⟨some 52, .call ⟨.value (.func 16), #[.tmp 48, .tmp 51], #[41, 24]⟩, none, false, [], false⟩,
 ⟨some 47, .move (.tmp 52), none, false, [], false⟩,
 ⟨some 53, .extract (.tmp 47) 0, none, false, [], false⟩,
 ⟨some 54, .extract (.tmp 47) 1, none, false, [], false⟩,
 ⟨some 8, .assign (.tmp 53), none, false, [], false⟩,
 ⟨some 9, .assign (.tmp 54), none, false, [], false⟩])
 (.seq
 (.reg false [
 ⟨some 55, .move (.tmp 9), none, false, [], false⟩])
 (.cond (.tmp 55)
 (.reg false [
 ⟨some 56, .move (.tmp 7), none, false, [], false⟩,
 ⟨some 57, .move (.tmp 7), none, false, [], false⟩,
 ⟨some 58, .nilCheck (.tmp 57), none, false, [], false⟩,
 ⟨some 59, .fieldAddr 24 (.tmp 58) 2, none, false, [], false⟩,
 ⟨some 60, .load 3 (.tmp 59), none, false, [], false⟩,
 ⟨some 61, .move (.tmp 8), none, false, [], false⟩,
 ⟨some 62, .build 24 #[(0, .const (.int .i64 1)), (2, .tmp 60), (5, .tmp 61)], none, false, [], false⟩,
 ⟨some 63, .nilCheck (.tmp 56), none, false, [], false⟩,
 ⟨none, .store 24 (.tmp 63) (.tmp 62), none, false, [], false⟩])
 .skip)))
 (.reg false [
 ⟨some 64, .move (.tmp 3), none, false, [], false⟩,
 ⟨some 65, .move (.tmp 7), none, false, [], false⟩,
 ⟨some 66, .nilCheck (.tmp 65), none, false, [], false⟩,
 ⟨some 67, .load 24 (.tmp 66), none, false, [], false⟩,
 ⟨some 68, .call ⟨.value (.func 17), #[.tmp 64, .tmp 67], #[41, 24]⟩, none, false, [], false⟩]))))))
 (.reg false [
 ⟨some 69, .binOp .add 3 (.tmp 35) (.const (.int .i64 1)) 3, none, false, [], false⟩,
 ⟨some 35, .move (.tmp 69), none, false, [], false⟩])))))))
 (.reg false [
 ⟨some 70, .move (.tmp 5), none, false, [], false⟩,
 ⟨some 71, .move (.tmp 3), none, false, [], false⟩,
 ⟨some 72, .move (.tmp 5), none, false, [], false⟩,
 ⟨some 73, .nilCheck (.tmp 72), none, false, [], false⟩,
 ⟨some 74, .fieldAddr 30 (.tmp 73) 1, none, false, [], false⟩,
 ⟨some 75, .load 28 (.tmp 74), none, false, [], false⟩,
 ⟨some 76, .call ⟨.value (.func 18), #[.tmp 71, .tmp 75], #[41, 28]⟩, none, false, [], false⟩,
 ⟨some 77, .nilCheck (.tmp 70), none, false, [], false⟩,
 ⟨some 78, .fieldAddr 30 (.tmp 77) 1, none, false, [], false⟩,
 ⟨none, .store 28 (.tmp 78) (.tmp 76), none, false, [], false⟩]))))))
 (.reg false [
 ⟨some 79, .binOp .add 3 (.tmp 19) (.const (.int .i64 1)) 3, none, false, [], false⟩,
 ⟨some 19, .move (.tmp 79), none, false, [], false⟩])))))))
 (.seq
 (.reg false [
 ⟨some 80, .load 36 (.tmp 1), none, false, [], false⟩,
 ⟨none, .store 36 (.tmp 2) (.tmp 80), none, false, [], false⟩])
 .ret)))))
noncomputable def fi10 : FI := ⟨c10, 81, [.cell 2 36], .plain⟩
noncomputable def c11 : XC :=
 (.seq
 (.reg false [
 ⟨some 1, .box 36 (.tmp 0), none, false, [], false⟩,
 ⟨some 2, .alloc 36, none, false, [], false⟩])
 (.seq
 (.reg false [
 ⟨some 11, .load 36 (.tmp 1), none, false, [], false⟩,
 ⟨some 12, .call ⟨.value (.func 14), #[.tmp 11], #[36]⟩, none, false, [], false⟩,
 ⟨none, .store 36 (.tmp 1) (.tmp 12), none, false, [], false⟩])
 (.seq
 (.reg false [
 ⟨some 13, .load 36 (.tmp 1), none, false, [], false⟩,
 ⟨some 14, .call ⟨.value (.func 19), #[.tmp 13], #[36]⟩, none, false, [], false⟩,
 ⟨some 3, .assign (.tmp 14), none, false, [], false⟩])
 (.seq
 (.seq
 (.reg false [
 ⟨some 15, .fieldAddr 36 (.tmp 1) 4, none, false, [], false⟩,
 ⟨some 16, .load 34 (.tmp 15), none, false, [], false⟩,
 ⟨some 17, .call ⟨.builtin .len, #[.tmp 16], #[34]⟩, none, false, [], false⟩,
 ⟨some 18, .move (.const (.int .i64 0)), none, false, [], false⟩])
 (.block 0
 (.loop
 (.seq
 (.reg false [
 ⟨some 19, .binOp .lss 3 (.tmp 18) (.tmp 17) 3, none, false, [], false⟩])
 (.seq
 (.cond (.tmp 19)
 .skip
 (.exit 0))
 (.seq
 (.block 1
 (.seq
 (.reg false [
 ⟨some 20, .move (.tmp 18), none, false, [], false⟩,
 ⟨some 4, .assign (.tmp 20), none, false, [], false⟩])
 (.seq
 (.reg false [
 ⟨some 21, .fieldAddr 36 (.tmp 1) 4, none, false, [], false⟩,
 ⟨some 22, .load 34 (.tmp 21), none, false, [], false⟩,
 ⟨some 23, .move (.tmp 4), none, false, [], false⟩,
 ⟨some 24, .indexAddr 34 (.tmp 22) (.tmp 23), none, false, [], false⟩,
 ⟨some 5, .assign (.tmp 24), none, false, [], false⟩])
 (.seq
 (.reg true [
 ⟨some 25, .load 36 (.tmp 1), none, false, [], false⟩,
 ⟨some 26, .move (.tmp 3), none, false, [], false⟩,
 ⟨some 27, .move (.tmp 5), none, false, [], false⟩,
 ⟨some 28, .nilCheck (.tmp 27), none, false, [], false⟩,
 ⟨some 29, .fieldAddr 30 (.tmp 28) 1, none, false, [], false⟩,
 ⟨some 30, .load 28 (.tmp 29), none, false, [], false⟩,
 ⟨some 31, .call ⟨.value (.func 20), #[.tmp 25, .tmp 26, .tmp 30], #[36, 52, 28]⟩, none, false, [false, true], false⟩,
 ⟨some 6, .alloc 55, none, false, [], false⟩,
 ⟨none, .store 55 (.tmp 6) (.tmp 31), none, false, [], false⟩])
 (.seq
 (.reg false [
 ⟨some 7, .alloc 26, none, false, [], false⟩])
 (.seq
 (.seq
 (.reg false [
 ⟨some 32, .move (.tmp 5), none, false, [], false⟩,
 ⟨some 33, .nilCheck (.tmp 32), none, false, [], false⟩,
 ⟨some 34, .fieldAddr 30 (.tmp 33) 0, none, false, [], false⟩,
 ⟨some 35, .load 26 (.tmp 34), none, false, [], false⟩,
 ⟨some 36, .call ⟨.value (.func 21), #[.tmp 35], #[26]⟩, none, false, [], false⟩])
 (.block 2
 (.rfn (.tmp 36) [37, 38]
 (.reg false [
 ⟨some 9, .alloc 24, none, false, [], false⟩,
 ⟨none, .store 24 (.tmp 9) (.tmp 38), none, false, [], false⟩])
 (.block 3
 (.seq
 (.reg true [
 ⟨some 39, .load 24 (.tmp 9), none, false, [], false⟩,
 ⟨some 40, .call ⟨.value (.func 22), #[.tmp 39], #[24]⟩, none, false, [true, true, true, true, true, true, true, true, true], false⟩,
 ⟨some 41, .binOp .geq 3 (.tmp 40) (.const (.int .i64 0)) 3, none, false, [], false⟩,
 ⟨some 42, .move (.tmp 41), none, false, [], false⟩,
 ⟨some 44, .load 24 (.tmp 9), some (some 42, true), false, [], false⟩,
 ⟨some 45, .call ⟨.value (.func 22), #[.tmp 44], #[24]⟩, some (some 42, true), true, [false, true, true, true, true], false⟩,
 ⟨some 43, .load 55 (.tmp 6), some (some 42, true), false, [], true⟩,
 ⟨some 46, .indexAddr 55 (.tmp 43) (.tmp 45), some (some 42, true), false, [], false⟩,
 ⟨some 47, .load 4 (.tmp 46), some (some 42, true), false, [], false⟩,
 ⟨some 48, .pick (.tmp 42) (.tmp 47) (.const (.bool false)), none, false, [], false⟩,
 ⟨some 10, .assign (.tmp 48), none, false, [], false⟩])
 (.seq
 (.reg false [
 ⟨some 49, .load 55 (.tmp 6), none, false, [], false⟩,
 ⟨some 50, .load 24 (.tmp 9), none, false, [], false⟩,
 ⟨some 51, .call ⟨.value (.func 23), #[.tmp 49, .tmp 50], #[55, 24]⟩, none, false, [], false⟩])
 (.seq
 (.seq
 (.reg false [
 ⟨some 52, .load 24 (.tmp 9), none, false, [], false⟩,
 ⟨some 53, .call ⟨.value (.func 24), #[.tmp 52], #[24]⟩, none, false, [], false⟩,
 ⟨some 54, .move (.tmp 53), none, false, [], false⟩,
 ⟨some 55, .move (.tmp 10), some (some 54, true), false, [], false⟩,
 ⟨some 56, .unOp .not 4 (.tmp 55), some (some 54, true), false, [], false⟩,
 ⟨some 57, .pick (.tmp 54) (.tmp 56) (.const (.bool false)), none, false, [], false⟩])
 (.cond (.tmp 57)
 (.exit 3)
 .skip))
 (.seq
 (.seq
 (.reg false [
 ⟨some 58, .fieldAddr 24 (.tmp 9) 0, none, false, [], false⟩,
 ⟨some 59, .load 3 (.tmp 58), none, false, [], false⟩,
 ⟨some 60, .binOp .eql 3 (.tmp 59) (.const (.int .i64 9)) 3, none, false, [], false⟩,
 ⟨some 61, .move (.tmp 60), none, false, [], false⟩,
 ⟨some 62, .move (.tmp 10), some (some 61, true), false, [], false⟩,
 ⟨some 63, .unOp .not 4 (.tmp 62), some (some 61, true), false, [], false⟩,
 ⟨some 64, .pick (.tmp 61) (.tmp 63) (.const (.bool false)), none, false, [], false⟩])
 (.cond (.tmp 64)
 (.reg false [
 ⟨some 65, .fieldAddr 24 (.tmp 9) 2, none, false, [], false⟩,
 ⟨none, .store 3 (.tmp 65) (.const (.int .i64 (-1))), none, false, [], false⟩])
 .skip))
 (.reg false [
 ⟨some 66, .load 26 (.tmp 7), none, false, [], false⟩,
 ⟨some 67, .load 24 (.tmp 9), none, false, [], false⟩,
 ⟨some 68, .buildSlice 26 1 #[(0, .tmp 67)], none, false, [], false⟩,
 ⟨some 69, .call ⟨.builtin .append, #[.tmp 66, .tmp 68], #[26, 26]⟩, none, false, [], false⟩,
 ⟨none, .store 26 (.tmp 7) (.tmp 69), none, false, [], false⟩])))))))))
 (.seq
 (.reg false [
 ⟨some 70, .load 26 (.tmp 7), none, false, [], false⟩,
 ⟨some 71, .call ⟨.value (.func 25), #[.tmp 70], #[26]⟩, none, false, [], false⟩])
 (.reg false [
 ⟨some 72, .move (.tmp 5), none, false, [], false⟩,
 ⟨some 73, .load 26 (.tmp 7), none, false, [], false⟩,
 ⟨some 74, .nilCheck (.tmp 72), none, false, [], false⟩,
 ⟨some 75, .fieldAddr 30 (.tmp 74) 0, none, false, [], false⟩,
 ⟨none, .store 26 (.tmp 75) (.tmp 73), none, false, [], false⟩]))))))))
 (.reg false [
 ⟨some 76, .binOp .add 3 (.tmp 18) (.const (.int .i64 1)) 3, none, false, [], false⟩,
 ⟨some 18, .move (.tmp 76), none, false, [], false⟩])))))))
 (.seq
 (.reg false [
 ⟨some 77, .load 36 (.tmp 1), none, false, [], false⟩,
 ⟨none, .store 36 (.tmp 2) (.tmp 77), none, false, [], false⟩])
 .ret)))))
noncomputable def fi11 : FI := ⟨c11, 78, [.cell 2 36], .plain⟩
noncomputable def c12 : XC :=
 (.seq
 (.reg false [
 ⟨some 0, .assign (.const (.bool false)), none, false, [], false⟩])
 (.seq
 (.reg false [
 ⟨some 2, .call ⟨.value (.func 5), #[.const (.int .i64 0), .const (.int .i64 2)], #[3, 3]⟩, none, false, [], false⟩,
 ⟨some 3, .call ⟨.value (.func 4), #[.const (.int .i64 1), .const (.int .i64 0)], #[3, 3]⟩, none, false, [], false⟩,
 ⟨some 4, .call ⟨.value (.func 7), #[.const (.int .i64 2), .const (.string ⟨#[43]⟩), .const (.int .i64 1), .const (.int .i64 0)], #[3, 9, 3, 3]⟩, none, false, [], false⟩,
 ⟨some 5, .buildSlice 26 3 #[(0, .tmp 2), (1, .tmp 3), (2, .tmp 4)], none, false, [], false⟩,
 ⟨some 6, .call ⟨.value (.func 6), #[.tmp 5], #[26]⟩, none, false, [], false⟩,
 ⟨some 1, .alloc 30, none, false, [], false⟩,
 ⟨none, .store 30 (.tmp 1) (.tmp 6), none, false, [], false⟩])
 (.seq
 (.reg true [
 ⟨some 9, .call ⟨.value (.func 5), #[.const (.int .i64 0), .const (.int .i64 2)], #[3, 3]⟩, none, true, [true, true, true, false, false, true, true, true, true, true, true, true, true], false⟩,
 ⟨some 10, .call ⟨.value (.func 5), #[.const (.int .i64 1), .const (.int .i64 2)], #[3, 3]⟩, none, true, [true, true, false, false, true, true, true, true, true, true, true, true], false⟩,
 ⟨some 11, .call ⟨.value (.func 5), #[.const (.int .i64 2), .const (.int .i64 4)], #[3, 3]⟩, none, true, [true, false, false, true, true, true, true, true, true, true, true], false⟩,
 ⟨some 12, .buildSlice 26 3 #[(0, .tmp 9), (1, .tmp 10), (2, .tmp 11)], none, false, [], false⟩,
 ⟨some 7, .fieldAddr 30 (.tmp 1) 0, none, false, [], false⟩,
 ⟨some 8, .load 26 (.tmp 7), none, false, [], true⟩,
 ⟨some 13, .call ⟨.value (.func 8), #[.tmp 8, .tmp 12], #[26, 26]⟩, none, false, [true, true, true, true, true, true, true], false⟩,
 ⟨some 14, .move (.tmp 13), none, false, [], false⟩,
 ⟨some 15, .fieldAddr 30 (.tmp 1) 1, some (some 14, true), false, [], false⟩,
 ⟨some 16, .load 28 (.tmp 15), some (some 14, true), false, [], false⟩,
 ⟨some 17, .build 28 #[(0, .const (.int .i64 1)), (2, .const (.int .i64 1))], some (some 14, true), false, [], false⟩,
 ⟨some 18, .binOp .eql 28 (.tmp 16) (.tmp 17) 28, some (some 14, true), false, [], false⟩,
 ⟨some 19, .pick (.tmp 14) (.tmp 18) (.const (.bool false)), none, false, [], false⟩,
 ⟨some 0, .assign (.tmp 19), none, false, [], false⟩])
 .ret)))
noncomputable def fi12 : FI := ⟨c12, 20, [.tmp 0], .plain⟩
noncomputable def c13 : XC :=
 (.seq
 (.reg false [
 ⟨some 2, .box 24 (.tmp 0), none, false, [], false⟩,
 ⟨some 3, .box 24 (.tmp 1), none, false, [], false⟩,
 ⟨some 4, .assign (.const (.bool false)), none, false, [], false⟩])
 (.seq
 (.reg false [
 ⟨some 5, .fieldAddr 24 (.tmp 2) 0, none, false, [], false⟩,
 ⟨some 6, .load 3 (.tmp 5), none, false, [], false⟩,
 ⟨some 7, .fieldAddr 24 (.tmp 3) 0, none, false, [], false⟩,
 ⟨some 8, .load 3 (.tmp 7), none, false, [], false⟩,
 ⟨some 9, .binOp .eql 3 (.tmp 6) (.tmp 8) 3, none, false, [], false⟩,
 ⟨some 10, .move (.tmp 9), none, false, [], false⟩,
 ⟨some 11, .fieldAddr 24 (.tmp 2) 1, some (some 10, true), false, [], false⟩,
 ⟨some 12, .load 3 (.tmp 11), some (some 10, true), false, [], false⟩,
 ⟨some 13, .fieldAddr 24 (.tmp 3) 1, some (some 10, true), false, [], false⟩,
 ⟨some 14, .load 3 (.tmp 13), some (some 10, true), false, [], false⟩,
 ⟨some 15, .binOp .eql 3 (.tmp 12) (.tmp 14) 3, some (some 10, true), false, [], false⟩,
 ⟨some 16, .pick (.tmp 10) (.tmp 15) (.const (.bool false)), none, false, [], false⟩,
 ⟨some 17, .move (.tmp 16), none, false, [], false⟩,
 ⟨some 18, .fieldAddr 24 (.tmp 2) 2, some (some 17, true), false, [], false⟩,
 ⟨some 19, .load 3 (.tmp 18), some (some 17, true), false, [], false⟩,
 ⟨some 20, .fieldAddr 24 (.tmp 3) 2, some (some 17, true), false, [], false⟩,
 ⟨some 21, .load 3 (.tmp 20), some (some 17, true), false, [], false⟩,
 ⟨some 22, .binOp .eql 3 (.tmp 19) (.tmp 21) 3, some (some 17, true), false, [], false⟩,
 ⟨some 23, .pick (.tmp 17) (.tmp 22) (.const (.bool false)), none, false, [], false⟩,
 ⟨some 24, .move (.tmp 23), none, false, [], false⟩,
 ⟨some 25, .fieldAddr 24 (.tmp 2) 3, some (some 24, true), false, [], false⟩,
 ⟨some 26, .load 3 (.tmp 25), some (some 24, true), false, [], false⟩,
 ⟨some 27, .fieldAddr 24 (.tmp 3) 3, some (some 24, true), false, [], false⟩,
 ⟨some 28, .load 3 (.tmp 27), some (some 24, true), false, [], false⟩,
 ⟨some 29, .binOp .eql 3 (.tmp 26) (.tmp 28) 3, some (some 24, true), false, [], false⟩,
 ⟨some 30, .pick (.tmp 24) (.tmp 29) (.const (.bool false)), none, false, [], false⟩,
 ⟨some 31, .move (.tmp 30), none, false, [], false⟩,
 ⟨some 32, .fieldAddr 24 (.tmp 2) 4, some (some 31, true), false, [], false⟩,
 ⟨some 33, .load 3 (.tmp 32), some (some 31, true), false, [], false⟩,
 ⟨some 34, .fieldAddr 24 (.tmp 3) 4, some (some 31, true), false, [], false⟩,
 ⟨some 35, .load 3 (.tmp 34), some (some 31, true), false, [], false⟩,
 ⟨some 36, .binOp .eql 3 (.tmp 33) (.tmp 35) 3, some (some 31, true), false, [], false⟩,
 ⟨some 37, .pick (.tmp 31) (.tmp 36) (.const (.bool false)), none, false, [], false⟩,
 ⟨some 38, .move (.tmp 37), none, false, [], false⟩,
 ⟨some 39, .fieldAddr 24 (.tmp 2) 5, some (some 38, true), false, [], false⟩,
 ⟨some 40, .load 3 (.tmp 39), some (some 38, true), false, [], false⟩,
 ⟨some 41, .fieldAddr 24 (.tmp 3) 5, some (some 38, true), false, [], false⟩,
 ⟨some 42, .load 3 (.tmp 41), some (some 38, true), false, [], false⟩,
 ⟨some 43, .binOp .eql 3 (.tmp 40) (.tmp 42) 3, some (some 38, true), false, [], false⟩,
 ⟨some 44, .pick (.tmp 38) (.tmp 43) (.const (.bool false)), none, false, [], false⟩,
 ⟨some 45, .move (.tmp 44), none, false, [], false⟩,
 ⟨some 46, .fieldAddr 24 (.tmp 2) 6, some (some 45, true), false, [], false⟩,
 ⟨some 47, .load 9 (.tmp 46), some (some 45, true), false, [], false⟩,
 ⟨some 48, .fieldAddr 24 (.tmp 3) 6, some (some 45, true), false, [], false⟩,
 ⟨some 49, .load 9 (.tmp 48), some (some 45, true), false, [], false⟩,
 ⟨some 50, .binOp .eql 9 (.tmp 47) (.tmp 49) 9, some (some 45, true), false, [], false⟩,
 ⟨some 51, .pick (.tmp 45) (.tmp 50) (.const (.bool false)), none, false, [], false⟩,
 ⟨some 52, .move (.tmp 51), none, false, [], false⟩,
 ⟨some 53, .fieldAddr 24 (.tmp 2) 7, some (some 52, true), false, [], false⟩,
 ⟨some 54, .load 22 (.tmp 53), some (some 52, true), false, [], false⟩,
 ⟨some 55, .fieldAddr 24 (.tmp 3) 7, some (some 52, true), false, [], false⟩,
 ⟨some 56, .load 22 (.tmp 55), some (some 52, true), false, [], false⟩,
 ⟨some 57, .call ⟨.value (.func 26), #[.tmp 54, .tmp 56], #[22, 22]⟩, some (some 52, true), false, [], false⟩,
 ⟨some 58, .pick (.tmp 52) (.tmp 57) (.const (.bool false)), none, false, [], false⟩,
 ⟨some 4, .assign (.tmp 58), none, false, [], false⟩])
 .ret))
noncomputable def fi13 : FI := ⟨c13, 59, [.tmp 4], .plain⟩
noncomputable def c14 : XC :=
 (.seq
 (.reg false [
 ⟨some 1, .box 36 (.tmp 0), none, false, [], false⟩,
 ⟨some 2, .alloc 36, none, false, [], false⟩])
 (.seq
 (.reg false [
 ⟨some 6, .fieldAddr 36 (.tmp 1) 3, none, false, [], false⟩,
 ⟨some 7, .load 22 (.tmp 6), none, false, [], false⟩,
 ⟨some 8, .call ⟨.value (.func 27), #[.tmp 7], #[22]⟩, none, false, [], false⟩,
 ⟨some 9, .fieldAddr 36 (.tmp 1) 3, none, false, [], false⟩,
 ⟨none, .store 22 (.tmp 9) (.tmp 8), none, false, [], false⟩])
 (.seq
 (.reg false [
 ⟨some 10, .fieldAddr 36 (.tmp 1) 4, none, false, [], false⟩,
 ⟨some 11, .load 34 (.tmp 10), none, false, [], false⟩,
 ⟨some 12, .call ⟨.value (.func 28), #[.tmp 11], #[34]⟩, none, false, [], false⟩,
 ⟨some 13, .fieldAddr 36 (.tmp 1) 4, none, false, [], false⟩,
 ⟨none, .store 34 (.tmp 13) (.tmp 12), none, false, [], false⟩])
 (.seq
 (.seq
 (.reg false [
 ⟨some 14, .fieldAddr 36 (.tmp 1) 4, none, false, [], false⟩,
 ⟨some 15, .load 34 (.tmp 14), none, false, [], false⟩,
 ⟨some 16, .call ⟨.builtin .len, #[.tmp 15], #[34]⟩, none, false, [], false⟩,
 ⟨some 17, .move (.const (.int .i64 0)), none, false, [], false⟩])
 (.block 0
 (.loop
 (.seq
 (.reg false [
 ⟨some 18, .binOp .lss 3 (.tmp 17) (.tmp 16) 3, none, false, [], false⟩])
 (.seq
 (.cond (.tmp 18)
 .skip
 (.exit 0))
 (.seq
 (.block 1
 (.seq
 (.reg false [
 ⟨some 19, .move (.tmp 17), none, false, [], false⟩,
 ⟨some 3, .assign (.tmp 19), none, false, [], false⟩])
 (.seq
 (.reg false [
 ⟨some 20, .fieldAddr 36 (.tmp 1) 4, none, false, [], false⟩,
 ⟨some 21, .load 34 (.tmp 20), none, false, [], false⟩,
 ⟨some 22, .move (.tmp 3), none, false, [], false⟩,
 ⟨some 23, .indexAddr 34 (.tmp 21) (.tmp 22), none, false, [], false⟩,
 ⟨some 4, .assign (.tmp 23), none, false, [], false⟩])
 (.seq
 (.reg false [
 ⟨some 24, .move (.tmp 4), none, false, [], false⟩,
 ⟨some 25, .move (.tmp 4), none, false, [], false⟩,
 ⟨some 26, .nilCheck (.tmp 25), none, false, [], false⟩,
 ⟨some 27, .fieldAddr 30 (.tmp 26) 0, none, false, [], false⟩,
 ⟨some 28, .load 26 (.tmp 27), none, false, [], false⟩,
 ⟨some 29, .call ⟨.value (.func 29), #[.tmp 28], #[26]⟩, none, false, [], false⟩,
 ⟨some 30, .nilCheck (.tmp 24), none, false, [], false⟩,
 ⟨some 31, .fieldAddr 30 (.tmp 30) 0, none, false, [], false⟩,
 ⟨none, .store 26 (.tmp 31) (.tmp 29), none, false, [], false⟩])
 (.seq
 (.reg false [
 ⟨some 32, .move (.tmp 4), none, false, [], false⟩,
 ⟨some 33, .nilCheck (.tmp 32), none, false, [], false⟩,
 ⟨some 34, .fieldAddr 30 (.tmp 33) 0, none, false, [], false⟩,
 ⟨some 35, .load 26 (.tmp 34), none, false, [], false⟩,
 ⟨some 36, .call ⟨.builtin .len, #[.tmp 35], #[26]⟩, none, false, [], false⟩,
 ⟨some 37, .move (.const (.int .i64 0)), none, false, [], false⟩])
 (.block 2
 (.loop
 (.seq
 (.reg false [
 ⟨some 38, .binOp .lss 3 (.tmp 37) (.tmp 36) 3, none, false, [], false⟩])
 (.seq
 (.cond (.tmp 38)
 .skip
 (.exit 2))
 (.seq
 (.block 3
 (.seq
 (.reg false [
 ⟨some 39, .move (.tmp 37), none, false, [], false⟩,
 ⟨some 5, .assign (.tmp 39), none, false, [], false⟩])
 (.reg true [
 ⟨some 45, .move (.tmp 4), none, false, [], false⟩,
 ⟨some 46, .nilCheck (.tmp 45), none, false, [], false⟩,
 ⟨some 47, .fieldAddr 30 (.tmp 46) 0, none, false, [], false⟩,
 ⟨some 48, .load 26 (.tmp 47), none, false, [], false⟩,
 ⟨some 49, .move (.tmp 5), none, false, [], false⟩,
 ⟨some 50, .indexAddr 26 (.tmp 48) (.tmp 49), none, false, [], false⟩,
 ⟨some 51, .fieldAddr 24 (.tmp 50) 7, none, false, [], false⟩,
 ⟨some 52, .load 22 (.tmp 51), none, false, [], false⟩,
 ⟨some 53, .call ⟨.value (.func 27), #[.tmp 52], #[22]⟩, none, true, [false, false, false, false, false, true, true, true], false⟩,
 ⟨some 40, .move (.tmp 4), none, false, [], false⟩,
 ⟨some 41, .nilCheck (.tmp 40), none, false, [], false⟩,
 ⟨some 42, .fieldAddr 30 (.tmp 41) 0, none, false, [], false⟩,
 ⟨some 43, .load 26 (.tmp 42), none, false, [], true⟩,
 ⟨some 44, .move (.tmp 5), none, false, [], false⟩,
 ⟨some 54, .indexAddr 26 (.tmp 43) (.tmp 44), none, false, [], false⟩,
 ⟨some 55, .fieldAddr 24 (.tmp 54) 7, none, false, [], false⟩,
 ⟨none, .store 22 (.tmp 55) (.tmp 53), none, false, [], false⟩])))
 (.reg false [
 ⟨some 56, .binOp .add 3 (.tmp 37) (.const (.int .i64 1)) 3, none, false, [], false⟩,
 ⟨some 37, .move (.tmp 56), none, false, [], false⟩])))))))))))
 (.reg false [
 ⟨some 57, .binOp .add 3 (.tmp 17) (.const (.int .i64 1)) 3, none, false, [], false⟩,
 ⟨some 17, .move (.tmp 57), none, false, [], false⟩])))))))
 (.seq
 (.reg false [
 ⟨some 58, .load 36 (.tmp 1), none, false, [], false⟩,
 ⟨none, .store 36 (.tmp 2) (.tmp 58), none, false, [], false⟩])
 .ret)))))
noncomputable def fi14 : FI := ⟨c14, 59, [.cell 2 36], .plain⟩
noncomputable def c15 : XC :=
 (.seq
 (.reg false [
 ⟨some 6, .move (.tmp 1), none, false, [], false⟩,
 ⟨some 7, .nilCheck (.tmp 6), none, false, [], false⟩,
 ⟨some 8, .fieldAddr 24 (.tmp 7) 0, none, false, [], false⟩,
 ⟨some 9, .load 3 (.tmp 8), none, false, [], false⟩])
 (.block 0
 (.seq
 (.reg false [
 ⟨some 26, .binOp .eql 3 (.tmp 9) (.const (.int .i64 9)) 3, none, false, [], false⟩,
 ⟨some 25, .assign (.tmp 26), none, false, [], false⟩])
 (.cond (.tmp 25)
 (.seq
 (.reg false [
 ⟨some 27, .move (.tmp 1), none, false, [], false⟩,
 ⟨some 28, .nilCheck (.tmp 27), none, false, [], false⟩,
 ⟨some 29, .fieldAddr 24 (.tmp 28) 7, none, false, [], false⟩,
 ⟨some 30, .load 22 (.tmp 29), none, false, [], false⟩,
 ⟨some 31, .call ⟨.builtin .len, #[.tmp 30], #[22]⟩, none, false, [], false⟩,
 ⟨some 32, .move (.const (.int .i64 0)), none, false, [], false⟩])
 (.block 1
 (.loop
 (.seq
 (.reg false [
 ⟨some 33, .binOp .lss 3 (.tmp 32) (.tmp 31) 3, none, false, [], false⟩])
 (.seq
 (.cond (.tmp 33)
 .skip
 (.exit 1))
 (.seq
 (.block 2
 (.seq
 (.reg false [
 ⟨some 34, .move (.tmp 32), none, false, [], false⟩,
 ⟨some 35, .indexAddr 22 (.tmp 30) (.tmp 32), none, false, [], false⟩,
 ⟨some 36, .load 3 (.tmp 35), none, false, [], false⟩,
 ⟨some 4, .assign (.tmp 34), none, false, [], false⟩,
 ⟨some 5, .assign (.tmp 36), none, false, [], false⟩])
 (.reg true [
 ⟨some 42, .move (.tmp 0), none, false, [], false⟩,
 ⟨some 43, .move (.tmp 5), none, false, [], false⟩,
 ⟨some 44, .call ⟨.value (.func 30), #[.tmp 42, .tmp 43], #[41, 3]⟩, none, true, [false, false, false, false, false, true, true], false⟩,
 ⟨some 37, .move (.tmp 1), none, false, [], false⟩,
 ⟨some 38, .nilCheck (.tmp 37), none, false, [], false⟩,
 ⟨some 39, .fieldAddr 24 (.tmp 38) 7, none, false, [], false⟩,
 ⟨some 40, .load 22 (.tmp 39), none, false, [], true⟩,
 ⟨some 41, .move (.tmp 4), none, false, [], false⟩,
 ⟨some 45, .indexAddr 22 (.tmp 40) (.tmp 41), none, false, [], false⟩,
 ⟨none, .store 3 (.tmp 45) (.tmp 44), none, false, [], false⟩])))
 (.reg false [
 ⟨some 46, .binOp .add 3 (.tmp 32) (.const (.int .i64 1)) 3, none, false, [], false⟩,
 ⟨some 32, .move (.tmp 46), none, false, [], false⟩])))))))
 (.seq
 (.seq
 (.reg false [
 ⟨some 48, .binOp .eql 3 (.tmp 9) (.const (.int .i64 3)) 3, none, false, [], false⟩,
 ⟨some 47, .assign (.tmp 48), none, false, [], false⟩])
 (.cond (.tmp 47)
 .skip
 (.reg false [
 ⟨some 49, .binOp .eql 3 (.tmp 9) (.const (.int .i64 6)) 3, none, false, [], false⟩,
 ⟨some 47, .assign (.tmp 49), none, false, [], false⟩])))
 (.cond (.tmp 47)
 (.reg true [
 ⟨some 52, .move (.tmp 0), none, false, [], false⟩,
 ⟨some 53, .move (.tmp 1), none, false, [], false⟩,
 ⟨some 54, .nilCheck (.tmp 53), none, false, [], false⟩,
 ⟨some 55, .fieldAddr 24 (.tmp 54) 3, none, false, [], false⟩,
 ⟨some 56, .load 3 (.tmp 55), none, false, [], false⟩,
 ⟨some 57, .call ⟨.value (.func 30), #[.tmp 52, .tmp 56], #[41, 3]⟩, none, true, [false, false, false, false, false, true, false, true, true, true, false, true, true, true], false⟩,
 ⟨some 58, .move (.tmp 0), none, false, [], false⟩,
 ⟨some 59, .move (.tmp 1), none, false, [], false⟩,
 ⟨some 60, .nilCheck (.tmp 59), none, false, [], false⟩,
 ⟨some 61, .fieldAddr 24 (.tmp 60) 4, none, false, [], false⟩,
 ⟨some 62, .load 3 (.tmp 61), none, false, [], true⟩,
 ⟨some 63, .call ⟨.value (.func 30), #[.tmp 58, .tmp 62], #[41, 3]⟩, none, false, [false, true, true, true, false, true, true, true], false⟩,
 ⟨some 50, .move (.tmp 1), none, false, [], false⟩,
 ⟨some 64, .nilCheck (.tmp 50), none, false, [], false⟩,
 ⟨some 65, .fieldAddr 24 (.tmp 64) 3, none, false, [], false⟩,
 ⟨none, .store 3 (.tmp 65) (.tmp 57), none, false, [false, true, true, true], false⟩,
 ⟨some 51, .move (.tmp 1), none, false, [], false⟩,
 ⟨some 66, .nilCheck (.tmp 51), none, false, [], false⟩,
 ⟨some 67, .fieldAddr 24 (.tmp 66) 4, none, false, [], false⟩,
 ⟨none, .store 3 (.tmp 67) (.tmp 63), none, false, [], false⟩])
 (.seq
 (.reg false [
 ⟨some 10, .move (.tmp 1), none, false, [], false⟩,
 ⟨some 11, .nilCheck (.tmp 10), none, false, [], false⟩,
 ⟨some 12, .load 24 (.tmp 11), none, false, [], false⟩,
 ⟨some 13, .call ⟨.value (.func 31), #[.tmp 12], #[24]⟩, none, false, [], false⟩,
 ⟨some 14, .call ⟨.builtin .len, #[.tmp 13], #[22]⟩, none, false, [], false⟩,
 ⟨some 15, .binOp .gtr 3 (.tmp 14) (.const (.int .i64 0)) 3, none, false, [], false⟩])
 (.cond (.tmp 15)
 (.reg false [
 ⟨some 16, .move (.tmp 1), none, false, [], false⟩,
 ⟨some 17, .move (.tmp 0), none, false, [], false⟩,
 ⟨some 18, .move (.tmp 1), none, false, [], false⟩,
 ⟨some 19, .nilCheck (.tmp 18), none, false, [], false⟩,
 ⟨some 20, .fieldAddr 24 (.tmp 19) 3, none, false, [], false⟩,
 ⟨some 21, .load 3 (.tmp 20), none, false, [], false⟩,
 ⟨some 22, .call ⟨.value (.func 30), #[.tmp 17, .tmp 21], #[41, 3]⟩, none, false, [], false⟩,
 ⟨some 23, .nilCheck (.tmp 16), none, false, [], false⟩,
 ⟨some 24, .fieldAddr 24 (.tmp 23) 3, none, false, [], false⟩,
 ⟨none, .store 3 (.tmp 24) (.tmp 22), none, false, [], false⟩])
 .skip))))))))
noncomputable def fi15 : FI := ⟨c15, 68, [], .plain⟩
noncomputable def c16 : XC :=
 (.seq
 (.reg false [
 ⟨some 3, .box 24 (.tmp 1), none, false, [], false⟩,
 ⟨some 4, .assign (.const (.int .i64 0)), none, false, [], false⟩,
 ⟨some 5, .assign (.const (.bool false)), none, false, [], false⟩])
 (.seq
 (.reg false [
 ⟨some 13, .move (.tmp 0), none, false, [], false⟩,
 ⟨some 14, .fieldAddr 24 (.tmp 3) 3, none, false, [], false⟩,
 ⟨some 15, .load 3 (.tmp 14), none, false, [], false⟩,
 ⟨some 16, .call ⟨.value (.func 32), #[.tmp 13, .tmp 15], #[41, 3]⟩, none, false, [], false⟩,
 ⟨some 12, .move (.tmp 16), none, false, [], false⟩,
 ⟨some 17, .extract (.tmp 12) 0, none, false, [], false⟩,
 ⟨some 18, .extract (.tmp 12) 1, none, false, [], false⟩,
 ⟨some 6, .assign (.tmp 17), none, false, [], false⟩,
 ⟨some 7, .assign (.tmp 18), none, false, [], false⟩])
 (.seq
 (.seq
 (.reg false [
 ⟨some 19, .move (.tmp 7), none, false, [], false⟩,
 ⟨some 20, .unOp .not 4 (.tmp 19), none, false, [], false⟩])
 (.cond (.tmp 20)
 (.seq
 (.reg false [
 ⟨some 4, .assign (.const (.int .i64 0)), none, false, [], false⟩,
 ⟨some 5, .assign (.const (.bool false)), none, false, [], false⟩])
 .ret)
 .skip))
 (.seq
 (.seq
 (.reg false [
 ⟨some 21, .fieldAddr 24 (.tmp 3) 0, none, false, [], false⟩,
 ⟨some 22, .load 3 (.tmp 21), none, false, [], false⟩])
 (.block 0
 (.seq
 (.reg false [
 ⟨some 24, .binOp .eql 3 (.tmp 22) (.const (.int .i64 2)) 3, none, false, [], false⟩,
 ⟨some 23, .assign (.tmp 24), none, false, [], false⟩])
 (.cond (.tmp 23)
 (.seq
 (.reg false [
 ⟨some 25, .move (.tmp 6), none, false, [], false⟩,
 ⟨some 4, .assign (.tmp 25), none, false, [], false⟩,
 ⟨some 5, .assign (.const (.bool true)), none, false, [], false⟩])
 .ret)
 (.seq
 (.reg false [
 ⟨some 27, .binOp .eql 3 (.tmp 22) (.const (.int .i64 4)) 3, none, false, [], false⟩,
 ⟨some 26, .assign (.tmp 27), none, false, [], false⟩])
 (.cond (.tmp 26)
 (.seq
 (.reg false [
 ⟨some 28, .fieldAddr 24 (.tmp 3) 1, none, false, [], false⟩,
 ⟨some 29, .load 3 (.tmp 28), none, false, [], false⟩,
 ⟨some 30, .move (.tmp 6), none, false, [], false⟩,
 ⟨some 31, .call ⟨.value (.func 33), #[.tmp 29, .tmp 30], #[3, 3]⟩, none, false, [], false⟩,
 ⟨some 4, .assign (.tmp 31), none, false, [], false⟩,
 ⟨some 5, .assign (.const (.bool true)), none, false, [], false⟩])
 .ret)
 (.seq
 (.reg false [
 ⟨some 33, .binOp .eql 3 (.tmp 22) (.const (.int .i64 3)) 3, none, false, [], false⟩,
 ⟨some 32, .assign (.tmp 33), none, false, [], false⟩])
 (.cond (.tmp 32)
 (.seq
 (.reg false [
 ⟨some 35, .move (.tmp 0), none, false, [], false⟩,
 ⟨some 36, .fieldAddr 24 (.tmp 3) 4, none, false, [], false⟩,
 ⟨some 37, .load 3 (.tmp 36), none, false, [], false⟩,
 ⟨some 38, .call ⟨.value (.func 32), #[.tmp 35, .tmp 37], #[41, 3]⟩, none, false, [], false⟩,
 ⟨some 34, .move (.tmp 38), none, false, [], false⟩,
 ⟨some 39, .extract (.tmp 34) 0, none, false, [], false⟩,
 ⟨some 40, .extract (.tmp 34) 1, none, false, [], false⟩,
 ⟨some 8, .assign (.tmp 39), none, false, [], false⟩,
 ⟨some 9, .assign (.tmp 40), none, false, [], false⟩])
 (.seq
 (.reg false [
 ⟨some 41, .move (.tmp 9), none, false, [], false⟩])
 (.cond (.tmp 41)
 (.seq
 (.reg false [
 ⟨some 43, .fieldAddr 24 (.tmp 3) 1, none, false, [], false⟩,
 ⟨some 44, .load 3 (.tmp 43), none, false, [], false⟩,
 ⟨some 45, .fieldAddr 24 (.tmp 3) 6, none, false, [], false⟩,
 ⟨some 46, .load 9 (.tmp 45), none, false, [], false⟩,
 ⟨some 47, .move (.tmp 6), none, false, [], false⟩,
 ⟨some 48, .move (.tmp 8), none, false, [], false⟩,
 ⟨some 49, .call ⟨.value (.func 34), #[.tmp 44, .tmp 46, .tmp 47, .tmp 48], #[3, 9, 3, 3]⟩, none, false, [], false⟩,
 ⟨some 42, .move (.tmp 49), none, false, [], false⟩,
 ⟨some 50, .extract (.tmp 42) 0, none, false, [], false⟩,
 ⟨some 51, .extract (.tmp 42) 1, none, false, [], false⟩,
 ⟨some 10, .assign (.tmp 50), none, false, [], false⟩,
 ⟨some 11, .assign (.tmp 51), none, false, [], false⟩])
 (.seq
 (.reg false [
 ⟨some 52, .move (.tmp 10), none, false, [], false⟩,
 ⟨some 53, .move (.tmp 11), none, false, [], false⟩,
 ⟨some 54, .binOp .eql 3 (.tmp 53) (.const (.int .i64 0)) 3, none, false, [], false⟩,
 ⟨some 4, .assign (.tmp 52), none, false, [], false⟩,
 ⟨some 5, .assign (.tmp 54), none, false, [], false⟩])
 .ret))
 .skip)))
 .skip))))))))
 (.seq
 (.reg false [
 ⟨some 4, .assign (.const (.int .i64 0)), none, false, [], false⟩,
 ⟨some 5, .assign (.const (.bool false)), none, false, [], false⟩])
 .ret)))))
noncomputable def fi16 : FI := ⟨c16, 55, [.tmp 4, .tmp 5], .plain⟩
noncomputable def c17 : XC :=
 (.seq
 (.reg false [
 ⟨some 3, .box 24 (.tmp 1), none, false, [], false⟩])
 (.seq
 (.reg false [
 ⟨some 5, .load 24 (.tmp 3), none, false, [], false⟩,
 ⟨some 6, .call ⟨.value (.func 22), #[.tmp 5], #[24]⟩, none, false, [], false⟩,
 ⟨some 4, .alloc 3, none, false, [], false⟩,
 ⟨none, .store 3 (.tmp 4) (.tmp 6), none, false, [], false⟩])
 (.seq
 (.seq
 (.reg false [
 ⟨some 7, .load 3 (.tmp 4), none, false, [], false⟩,
 ⟨some 8, .binOp .lss 3 (.tmp 7) (.const (.int .i64 0)) 3, none, false, [], false⟩])
 (.cond (.tmp 8)
 .ret
 .skip))
 (.seq
 (.reg true [
 ⟨some 9, .move (.tmp 0), none, false, [], false⟩,
 ⟨some 10, .nilCheck (.tmp 9), none, false, [], false⟩,
 ⟨some 11, .fieldAddr 44 (.tmp 10) 1, none, false, [], false⟩,
 ⟨some 12, .load 42 (.tmp 11), none, false, [], false⟩,
 ⟨some 13, .load 3 (.tmp 4), none, false, [], false⟩,
 ⟨none, .call ⟨.builtin .delete, #[.tmp 12, .tmp 13], #[42, 3]⟩, none, false, [], false⟩])
 (.seq
 (.reg false [
 ⟨some 14, .move (.tmp 0), none, false, [], false⟩,
 ⟨some 15, .nilCheck (.tmp 14), none, false, [], false⟩,
 ⟨some 16, .fieldAddr 44 (.tmp 15) 1, none, false, [], false⟩,
 ⟨some 17, .load 42 (.tmp 16), none, false, [], false⟩,
 ⟨some 18, .makeFunc (.func 36) #[] #[.tmp 4], none, false, [], false⟩,
 ⟨some 19, .call ⟨.value (.func 35), #[.tmp 17, .tmp 18], #[42, 76]⟩, none, false, [], false⟩])
 (.block 0
 (.seq
 (.reg false [
 ⟨some 21, .fieldAddr 24 (.tmp 3) 0, none, false, [], false⟩,
 ⟨some 22, .load 3 (.tmp 21), none, false, [], false⟩,
 ⟨some 23, .binOp .eql 3 (.tmp 22) (.const (.int .i64 1)) 3, none, false, [], false⟩,
 ⟨some 20, .assign (.tmp 23), none, false, [], false⟩])
 (.cond (.tmp 20)
 (.reg true [
 ⟨some 24, .move (.tmp 0), none, false, [], false⟩,
 ⟨some 25, .nilCheck (.tmp 24), none, false, [], false⟩,
 ⟨some 26, .fieldAddr 44 (.tmp 25) 1, none, false, [], false⟩,
 ⟨some 27, .load 42 (.tmp 26), none, false, [], false⟩,
 ⟨some 28, .load 3 (.tmp 4), none, false, [], false⟩,
 ⟨some 29, .fieldAddr 24 (.tmp 3) 5, none, false, [], false⟩,
 ⟨some 30, .load 3 (.tmp 29), none, false, [], false⟩,
 ⟨some 31, .build 75 #[(1, .tmp 30)], none, false, [], false⟩,
 ⟨none, .mapUpdate 42 (.tmp 27) (.tmp 28) (.tmp 31), none, false, [], false⟩])
 (.seq
 (.reg false [
 ⟨some 33, .fieldAddr 24 (.tmp 3) 0, none, false, [], false⟩,
 ⟨some 34, .load 3 (.tmp 33), none, false, [], false⟩,
 ⟨some 35, .binOp .eql 3 (.tmp 34) (.const (.int .i64 2)) 3, none, false, [], false⟩,
 ⟨some 36, .move (.tmp 35), none, false, [], false⟩,
 ⟨some 37, .fieldAddr 24 (.tmp 3) 3, some (some 36, true), false, [], false⟩,
 ⟨some 38, .load 3 (.tmp 37), some (some 36, true), false, [], false⟩,
 ⟨some 39, .load 3 (.tmp 4), some (some 36, true), false, [], false⟩,
 ⟨some 40, .binOp .neq 3 (.tmp 38) (.tmp 39) 3, some (some 36, true), false, [], false⟩,
 ⟨some 41, .pick (.tmp 36) (.tmp 40) (.const (.bool false)), none, false, [], false⟩,
 ⟨some 32, .assign (.tmp 41), none, false, [], false⟩])
 (.cond (.tmp 32)
 (.reg true [
 ⟨some 42, .move (.tmp 0), none, false, [], false⟩,
 ⟨some 43, .nilCheck (.tmp 42), none, false, [], false⟩,
 ⟨some 44, .fieldAddr 44 (.tmp 43) 1, none, false, [], false⟩,
 ⟨some 45, .load 42 (.tmp 44), none, false, [], false⟩,
 ⟨some 46, .load 3 (.tmp 4), none, false, [], false⟩,
 ⟨some 47, .fieldAddr 24 (.tmp 3) 3, none, false, [], false⟩,
 ⟨some 48, .load 3 (.tmp 47), none, false, [], false⟩,
 ⟨some 49, .build 75 #[(0, .const (.bool true)), (1, .tmp 48)], none, false, [], false⟩,
 ⟨none, .mapUpdate 42 (.tmp 45) (.tmp 46) (.tmp 49), none, false, [], false⟩])
 .skip))))))))))
noncomputable def fi17 : FI := ⟨c17, 50, [], .plain⟩
noncomputable def c18 : XC :=
 (.seq
 (.reg false [
 ⟨some 3, .box 28 (.tmp 1), none, false, [], false⟩,
 ⟨some 4, .alloc 28, none, false, [], false⟩])
 (.seq
 (.seq
 (.reg false [
 ⟨some 7, .fieldAddr 28 (.tmp 3) 0, none, false, [], false⟩,
 ⟨some 8, .load 3 (.tmp 7), none, false, [], false⟩,
 ⟨some 9, .binOp .eql 3 (.tmp 8) (.const (.int .i64 1)) 3, none, false, [], false⟩,
 ⟨some 10, .move (.tmp 9), none, false, [], false⟩,
 ⟨some 11, .fieldAddr 28 (.tmp 3) 1, some (some 10, false), false, [], false⟩,
 ⟨some 12, .load 3 (.tmp 11), some (some 10, false), false, [], false⟩,
 ⟨some 13, .binOp .lss 3 (.tmp 12) (.const (.int .i64 0)) 3, some (some 10, false), false, [], false⟩,
 ⟨some 14, .pick (.tmp 10) (.const (.bool true)) (.tmp 13), none, false, [], false⟩])
 (.cond (.tmp 14)
 (.seq
 (.reg false [
 ⟨some 15, .load 28 (.tmp 3), none, false, [], false⟩,
 ⟨none, .store 28 (.tmp 4) (.tmp 15), none, false, [], false⟩])
 .ret)
 .skip))
 (.seq
 (.reg false [
 ⟨some 16, .move (.tmp 0), none, false, [], false⟩,
 ⟨some 17, .fieldAddr 28 (.tmp 3) 1, none, false, [], false⟩,
 ⟨some 18, .load 3 (.tmp 17), none, false, [], false⟩,
 ⟨some 19, .call ⟨.value (.func 30), #[.tmp 16, .tmp 18], #[41, 3]⟩, none, false, [], false⟩,
 ⟨some 20, .fieldAddr 28 (.tmp 3) 1, none, false, [], false⟩,
 ⟨none, .store 3 (.tmp 20) (.tmp 19), none, false, [], false⟩])
 (.seq
 (.seq
 (.reg false [
 ⟨some 21, .fieldAddr 28 (.tmp 3) 0, none, false, [], false⟩,
 ⟨some 22, .load 3 (.tmp 21), none, false, [], false⟩,
 ⟨some 23, .binOp .neq 3 (.tmp 22) (.const (.int .i64 2)) 3, none, false, [], false⟩])
 (.cond (.tmp 23)
 (.seq
 (.reg false [
 ⟨some 24, .load 28 (.tmp 3), none, false, [], false⟩,
 ⟨none, .store 28 (.tmp 4) (.tmp 24), none, false, [], false⟩])
 .ret)
 .skip))
 (.seq
 (.reg false [
 ⟨some 26, .move (.tmp 0), none, false, [], false⟩,
 ⟨some 27, .fieldAddr 28 (.tmp 3) 1, none, false, [], false⟩,
 ⟨some 28, .load 3 (.tmp 27), none, false, [], false⟩,
 ⟨some 29, .call ⟨.value (.func 32), #[.tmp 26, .tmp 28], #[41, 3]⟩, none, false, [], false⟩,
 ⟨some 25, .move (.tmp 29), none, false, [], false⟩,
 ⟨some 30, .extract (.tmp 25) 0, none, false, [], false⟩,
 ⟨some 31, .extract (.tmp 25) 1, none, false, [], false⟩,
 ⟨some 5, .assign (.tmp 30), none, false, [], false⟩,
 ⟨some 6, .assign (.tmp 31), none, false, [], false⟩])
 (.seq
 (.block 0
 (.seq
 (.reg false [
 ⟨some 33, .move (.tmp 6), none, false, [], false⟩,
 ⟨some 34, .move (.tmp 33), none, false, [], false⟩,
 ⟨some 35, .move (.tmp 5), some (some 34, true), false, [], false⟩,
 ⟨some 36, .binOp .eql 3 (.tmp 35) (.const (.int .i64 0)) 3, some (some 34, true), false, [], false⟩,
 ⟨some 37, .pick (.tmp 34) (.tmp 36) (.const (.bool false)), none, false, [], false⟩,
 ⟨some 32, .assign (.tmp 37), none, false, [], false⟩])
 (.cond (.tmp 32)
 (.seq
 (.reg false [
 ⟨some 38, .fieldAddr 28 (.tmp 3) 3, none, false, [], false⟩,
 ⟨some 39, .load 3 (.tmp 38), none, false, [], false⟩,
 ⟨some 40, .build 28 #[(0, .const (.int .i64 1)), (2, .tmp 39)], none, false, [], false⟩,
 ⟨none, .store 28 (.tmp 4) (.tmp 40), none, false, [], false⟩])
 .ret)
 (.seq
 (.reg false [
 ⟨some 42, .move (.tmp 6), none, false, [], false⟩,
 ⟨some 43, .move (.tmp 42), none, false, [], false⟩,
 ⟨some 44, .fieldAddr 28 (.tmp 3) 2, some (some 43, false), false, [], false⟩,
 ⟨some 45, .load 3 (.tmp 44), some (some 43, false), false, [], false⟩,
 ⟨some 46, .fieldAddr 28 (.tmp 3) 3, some (some 43, false), false, [], false⟩,
 ⟨some 47, .load 3 (.tmp 46), some (some 43, false), false, [], false⟩,
 ⟨some 48, .binOp .eql 3 (.tmp 45) (.tmp 47) 3, some (some 43, false), false, [], false⟩,
 ⟨some 49, .pick (.tmp 43) (.const (.bool true)) (.tmp 48), none, false, [], false⟩,
 ⟨some 41, .assign (.tmp 49), none, false, [], false⟩])
 (.cond (.tmp 41)
 (.seq
 (.reg false [
 ⟨some 50, .fieldAddr 28 (.tmp 3) 2, none, false, [], false⟩,
 ⟨some 51, .load 3 (.tmp 50), none, false, [], false⟩,
 ⟨some 52, .build 28 #[(0, .const (.int .i64 1)), (2, .tmp 51)], none, false, [], false⟩,
 ⟨none, .store 28 (.tmp 4) (.tmp 52), none, false, [], false⟩])
 .ret)
 .skip)))))
 (.seq
 (.reg false [
 ⟨some 53, .load 28 (.tmp 3), none, false, [], false⟩,
 ⟨none, .store 28 (.tmp 4) (.tmp 53), none, false, [], false⟩])
 .ret)))))))
noncomputable def fi18 : FI := ⟨c18, 54, [.cell 4 28], .plain⟩
noncomputable def c19 : XC :=
 (.seq
 (.reg false [
 ⟨some 1, .box 36 (.tmp 0), none, false, [], false⟩,
 ⟨some 2, .assign (.const (.slice none 0 0)), none, false, [], false⟩])
 (.seq
 (.reg false [
 ⟨some 10, .fieldAddr 36 (.tmp 1) 4, none, false, [], false⟩,
 ⟨some 11, .load 34 (.tmp 10), none, false, [], false⟩,
 ⟨some 12, .call ⟨.builtin .len, #[.tmp 11], #[34]⟩, none, false, [], false⟩,
 ⟨some 13, .makeSlice 52 (.tmp 12) (.tmp 12), none, false, [], false⟩,
 ⟨some 3, .alloc 52, none, false, [], false⟩,
 ⟨none, .store 52 (.tmp 3) (.tmp 13), none, false, [], false⟩])
 (.seq
 (.seq
 (.reg false [
 ⟨some 4, .alloc 4, none, false, [], false⟩,
 ⟨none, .store 4 (.tmp 4) (.const (.bool true)), none, false, [], false⟩])
 (.block 0
 (.loop
 (.seq
 (.seq
 (.reg false [
 ⟨some 14, .load 4 (.tmp 4), none, false, [], false⟩])
 (.cond (.tmp 14)
 .skip
 (.exit 0)))
 (.seq
 (.block 1
 (.seq
 (.reg false [
 ⟨none, .store 4 (.tmp 4) (.const (.bool false)), none, false, [], false⟩])
 (.seq
 (.reg false [
 ⟨some 15, .fieldAddr 36 (.tmp 1) 4, none, false, [], false⟩,
 ⟨some 16, .load 34 (.tmp 15), none, false, [], false⟩,
 ⟨some 17, .call ⟨.value (.func 37), #[.tmp 16], #[34]⟩, none, false, [], false⟩])
 (.block 2
 (.rfn (.tmp 17) [18, 19]
 (.seq
 (.reg false [
 ⟨some 5, .assign (.tmp 18), none, false, [], false⟩])
 (.reg false [
 ⟨some 6, .alloc 30, none, false, [], false⟩,
 ⟨none, .store 30 (.tmp 6) (.tmp 19), none, false, [], false⟩]))
 (.block 3
 (.seq
 (.reg false [
 ⟨some 20, .load 36 (.tmp 1), none, false, [], false⟩,
 ⟨some 21, .load 52 (.tmp 3), none, false, [], false⟩,
 ⟨some 22, .fieldAddr 30 (.tmp 6) 1, none, false, [], false⟩,
 ⟨some 23, .load 28 (.tmp 22), none, false, [], false⟩,
 ⟨some 24, .call ⟨.value (.func 20), #[.tmp 20, .tmp 21, .tmp 23], #[36, 52, 28]⟩, none, false, [], false⟩,
 ⟨some 7, .alloc 55, none, false, [], false⟩,
 ⟨none, .store 55 (.tmp 7) (.tmp 24), none, false, [], false⟩])
 (.seq
 (.seq
 (.reg false [
 ⟨some 25, .fieldAddr 30 (.tmp 6) 0, none, false, [], false⟩,
 ⟨some 26, .load 26 (.tmp 25), none, false, [], false⟩,
 ⟨some 27, .call ⟨.value (.func 21), #[.tmp 26], #[26]⟩, none, false, [], false⟩])
 (.block 4
 (.rfn (.tmp 27) [28, 29]
 (.reg false [
 ⟨some 9, .alloc 24, none, false, [], false⟩,
 ⟨none, .store 24 (.tmp 9) (.tmp 29), none, false, [], false⟩])
 (.block 5
 (.reg false [
 ⟨some 30, .load 55 (.tmp 7), none, false, [], false⟩,
 ⟨some 31, .load 24 (.tmp 9), none, false, [], false⟩,
 ⟨some 32, .call ⟨.value (.func 23), #[.tmp 30, .tmp 31], #[55, 24]⟩, none, false, [], false⟩])))))
 (.seq
 (.reg true [
 ⟨some 33, .load 55 (.tmp 7), none, false, [], false⟩,
 ⟨some 34, .load 52 (.tmp 3), none, false, [], false⟩,
 ⟨some 35, .move (.tmp 5), none, false, [], false⟩,
 ⟨some 36, .indexAddr 52 (.tmp 34) (.tmp 35), none, false, [], false⟩,
 ⟨some 37, .load 55 (.tmp 36), none, false, [], false⟩,
 ⟨some 38, .call ⟨.value (.func 38), #[.tmp 33, .tmp 37], #[55, 55]⟩, none, false, [true], false⟩,
 ⟨some 39, .unOp .not 4 (.tmp 38), none, false, [], false⟩])
 (.cond (.tmp 39)
 (.reg false [
 ⟨some 40, .load 52 (.tmp 3), none, false, [], false⟩,
 ⟨some 41, .move (.tmp 5), none, false, [], false⟩,
 ⟨some 42, .load 55 (.tmp 7), none, false, [], false⟩,
 ⟨some 43, .indexAddr 52 (.tmp 40) (.tmp 41), none, false, [], false⟩,
 ⟨none, .store 55 (.tmp 43) (.tmp 42), none, false, [], false⟩,
 ⟨none, .store 4 (.tmp 4) (.const (.bool true)), none, false, [], false⟩])
 .skip))))))))))
 (.seq
 (.reg false [
 ⟨some 44, .load 4 (.tmp 4), none, false, [], false⟩])
 (.reg false [
 ⟨some 4, .alloc 4, none, false, [], false⟩,
 ⟨none, .store 4 (.tmp 4) (.tmp 44), none, false, [], false⟩])))))))
 (.seq
 (.reg false [
 ⟨some 45, .load 52 (.tmp 3), none, false, [], false⟩,
 ⟨some 2, .assign (.tmp 45), none, false, [], false⟩])
 .ret))))
noncomputable def fi19 : FI := ⟨c19, 46, [.tmp 2], .plain⟩
noncomputable def c20 : XC :=
 (.seq
 (.reg false [
 ⟨some 3, .box 36 (.tmp 0), none, false, [], false⟩,
 ⟨some 5, .box 28 (.tmp 2), none, false, [], false⟩,
 ⟨some 6, .assign (.const (.slice none 0 0)), none, false, [], false⟩])
 (.seq
 (.reg false [
 ⟨some 12, .fieldAddr 36 (.tmp 3) 3, none, false, [], false⟩,
 ⟨some 13, .load 22 (.tmp 12), none, false, [], false⟩,
 ⟨some 14, .call ⟨.builtin .len, #[.tmp 13], #[22]⟩, none, false, [], false⟩,
 ⟨some 15, .makeSlice 55 (.tmp 14) (.tmp 14), none, false, [], false⟩,
 ⟨some 7, .assign (.tmp 15), none, false, [], false⟩])
 (.seq
 (.seq
 (.reg false [
 ⟨some 16, .load 28 (.tmp 5), none, false, [], false⟩,
 ⟨some 17, .call ⟨.value (.func 39), #[.tmp 16], #[28]⟩, none, false, [], false⟩,
 ⟨some 18, .call ⟨.builtin .len, #[.tmp 17], #[22]⟩, none, false, [], false⟩,
 ⟨some 19, .move (.const (.int .i64 0)), none, false, [], false⟩])
 (.block 0
 (.loop
 (.seq
 (.reg false [
 ⟨some 20, .binOp .lss 3 (.tmp 19) (.tmp 18) 3, none, false, [], false⟩])
 (.seq
 (.cond (.tmp 20)
 .skip
 (.exit 0))
 (.seq
 (.block 1
 (.seq
 (.reg false [
 ⟨some 21, .indexAddr 22 (.tmp 17) (.tmp 19), none, false, [], false⟩,
 ⟨some 22, .load 3 (.tmp 21), none, false, [], false⟩,
 ⟨some 9, .assign (.tmp 22), none, false, [], false⟩])
 (.seq
 (.reg false [
 ⟨some 23, .move (.tmp 1), none, false, [], false⟩,
 ⟨some 24, .move (.tmp 9), none, false, [], false⟩,
 ⟨some 25, .indexAddr 52 (.tmp 23) (.tmp 24), none, false, [], false⟩,
 ⟨some 26, .load 55 (.tmp 25), none, false, [], false⟩,
 ⟨some 27, .call ⟨.builtin .len, #[.tmp 26], #[55]⟩, none, false, [], false⟩,
 ⟨some 28, .move (.const (.int .i64 0)), none, false, [], false⟩])
 (.block 2
 (.loop
 (.seq
 (.reg false [
 ⟨some 29, .binOp .lss 3 (.tmp 28) (.tmp 27) 3, none, false, [], false⟩])
 (.seq
 (.cond (.tmp 29)
 .skip
 (.exit 2))
 (.seq
 (.block 3
 (.seq
 (.reg false [
 ⟨some 30, .move (.tmp 28), none, false, [], false⟩,
 ⟨some 31, .indexAddr 55 (.tmp 26) (.tmp 28), none, false, [], false⟩,
 ⟨some 32, .load 4 (.tmp 31), none, false, [], false⟩,
 ⟨some 10, .assign (.tmp 30), none, false, [], false⟩,
 ⟨some 11, .assign (.tmp 32), none, false, [], false⟩])
 (.reg false [
 ⟨some 33, .move (.tmp 7), none, false, [], false⟩,
 ⟨some 34, .move (.tmp 10), none, false, [], false⟩,
 ⟨some 35, .move (.tmp 7), none, false, [], false⟩,
 ⟨some 36, .move (.tmp 10), none, false, [], false⟩,
 ⟨some 37, .indexAddr 55 (.tmp 35) (.tmp 36), none, false, [], false⟩,
 ⟨some 38, .load 4 (.tmp 37), none, false, [], false⟩,
 ⟨some 39, .move (.tmp 38), none, false, [], false⟩,
 ⟨some 40, .move (.tmp 11), some (some 39, false), false, [], false⟩,
 ⟨some 41, .pick (.tmp 39) (.const (.bool true)) (.tmp 40), none, false, [], false⟩,
 ⟨some 42, .indexAddr 55 (.tmp 33) (.tmp 34), none, false, [], false⟩,
 ⟨none, .store 4 (.tmp 42) (.tmp 41), none, false, [], false⟩])))
 (.reg false [
 ⟨some 43, .binOp .add 3 (.tmp 28) (.const (.int .i64 1)) 3, none, false, [], false⟩,
 ⟨some 28, .move (.tmp 43), none, false, [], false⟩])))))))))
 (.reg false [
 ⟨some 44, .binOp .add 3 (.tmp 19) (.const (.int .i64 1)) 3, none, false, [], false⟩,
 ⟨some 19, .move (.tmp 44), none, false, [], false⟩])))))))
 (.seq
 (.seq
 (.reg false [
 ⟨some 45, .fieldAddr 28 (.tmp 5) 0, none, false, [], false⟩,
 ⟨some 46, .load 3 (.tmp 45), none, false, [], false⟩,
 ⟨some 47, .binOp .neq 3 (.tmp 46) (.const (.int .i64 1)) 3, none, false, [], false⟩,
 ⟨some 48, .move (.tmp 47), none, false, [], false⟩,
 ⟨some 49, .fieldAddr 28 (.tmp 5) 1, some (some 48, true), false, [], false⟩,
 ⟨some 50, .load 3 (.tmp 49), some (some 48, true), false, [], false⟩,
 ⟨some 51, .binOp .geq 3 (.tmp 50) (.const (.int .i64 0)) 3, some (some 48, true), false, [], false⟩,
 ⟨some 52, .pick (.tmp 48) (.tmp 51) (.const (.bool false)), none, false, [], false⟩])
 (.cond (.tmp 52)
 (.reg false [
 ⟨some 53, .move (.tmp 7), none, false, [], false⟩,
 ⟨some 54, .fieldAddr 28 (.tmp 5) 1, none, false, [], false⟩,
 ⟨some 55, .load 3 (.tmp 54), none, false, [], false⟩,
 ⟨some 56, .indexAddr 55 (.tmp 53) (.tmp 55), none, false, [], false⟩,
 ⟨none, .store 4 (.tmp 56) (.const (.bool true)), none, false, [], false⟩])
 .skip))
 (.seq
 (.reg false [
 ⟨some 57, .move (.tmp 7), none, false, [], false⟩,
 ⟨some 6, .assign (.tmp 57), none, false, [], false⟩])
 .ret)))))
noncomputable def fi20 : FI := ⟨c20, 58, [.tmp 6], .plain⟩
noncomputable def c21 : XC :=
 (.seq
 (.reg false [
 ⟨some 1, .box 26 (.tmp 0), none, false, [], false⟩,
 ⟨some 2, .assign (.const .nilFunc), none, false, [], false⟩])
 (.seq
 (.reg false [
 ⟨some 3, .makeFunc (.func 40) #[] #[.tmp 1], none, false, [], false⟩,
 ⟨some 2, .assign (.tmp 3), none, false, [], false⟩])
 .ret))
noncomputable def fi21 : FI := ⟨c21, 4, [.tmp 2], .plain⟩
noncomputable def c22 : XC :=
 (.seq
 (.reg false [
 ⟨some 1, .box 24 (.tmp 0), none, false, [], false⟩,
 ⟨some 2, .assign (.const (.int .i64 0)), none, false, [], false⟩])
 (.seq
 (.seq
 (.reg false [
 ⟨some 3, .fieldAddr 24 (.tmp 1) 0, none, false, [], false⟩,
 ⟨some 4, .load 3 (.tmp 3), none, false, [], false⟩])
 (.block 0
 (.seq
 (.seq
 (.reg false [
 ⟨some 6, .binOp .eql 3 (.tmp 4) (.const (.int .i64 1)) 3, none, false, [], false⟩,
 ⟨some 5, .assign (.tmp 6), none, false, [], false⟩])
 (.cond (.tmp 5)
 .skip
 (.seq
 (.reg false [
 ⟨some 7, .binOp .eql 3 (.tmp 4) (.const (.int .i64 2)) 3, none, false, [], false⟩,
 ⟨some 5, .assign (.tmp 7), none, false, [], false⟩])
 (.cond (.tmp 5)
 .skip
 (.seq
 (.reg false [
 ⟨some 8, .binOp .eql 3 (.tmp 4) (.const (.int .i64 3)) 3, none, false, [], false⟩,
 ⟨some 5, .assign (.tmp 8), none, false, [], false⟩])
 (.cond (.tmp 5)
 .skip
 (.seq
 (.reg false [
 ⟨some 9, .binOp .eql 3 (.tmp 4) (.const (.int .i64 4)) 3, none, false, [], false⟩,
 ⟨some 5, .assign (.tmp 9), none, false, [], false⟩])
 (.cond (.tmp 5)
 .skip
 (.seq
 (.reg false [
 ⟨some 10, .binOp .eql 3 (.tmp 4) (.const (.int .i64 5)) 3, none, false, [], false⟩,
 ⟨some 5, .assign (.tmp 10), none, false, [], false⟩])
 (.cond (.tmp 5)
 .skip
 (.seq
 (.reg false [
 ⟨some 11, .binOp .eql 3 (.tmp 4) (.const (.int .i64 7)) 3, none, false, [], false⟩,
 ⟨some 5, .assign (.tmp 11), none, false, [], false⟩])
 (.cond (.tmp 5)
 .skip
 (.reg false [
 ⟨some 12, .binOp .eql 3 (.tmp 4) (.const (.int .i64 10)) 3, none, false, [], false⟩,
 ⟨some 5, .assign (.tmp 12), none, false, [], false⟩])))))))))))))
 (.cond (.tmp 5)
 (.seq
 (.reg false [
 ⟨some 13, .fieldAddr 24 (.tmp 1) 2, none, false, [], false⟩,
 ⟨some 14, .load 3 (.tmp 13), none, false, [], false⟩,
 ⟨some 2, .assign (.tmp 14), none, false, [], false⟩])
 .ret)
 (.seq
 (.reg false [
 ⟨some 16, .binOp .eql 3 (.tmp 4) (.const (.int .i64 9)) 3, none, false, [], false⟩,
 ⟨some 15, .assign (.tmp 16), none, false, [], false⟩])
 (.cond (.tmp 15)
 (.seq
 (.reg false [
 ⟨some 17, .fieldAddr 24 (.tmp 1) 2, none, false, [], false⟩,
 ⟨some 18, .load 3 (.tmp 17), none, false, [], false⟩,
 ⟨some 19, .call ⟨.builtin .max, #[.tmp 18, .const (.int .i64 (-1))], #[3, 3]⟩, none, false, [], false⟩,
 ⟨some 2, .assign (.tmp 19), none, false, [], false⟩])
 .ret)
 .skip))))))
 (.seq
 (.reg false [
 ⟨some 2, .assign (.const (.int .i64 (-1))), none, false, [], false⟩])
 .ret)))
noncomputable def fi22 : FI := ⟨c22, 20, [.tmp 2], .plain⟩
noncomputable def c23 : XC :=
 (.seq
 (.reg false [
 ⟨some 3, .box 24 (.tmp 1), none, false, [], false⟩])
 (.seq
 (.seq
 (.reg false [
 ⟨some 7, .load 24 (.tmp 3), none, false, [], false⟩,
 ⟨some 8, .call ⟨.value (.func 22), #[.tmp 7], #[24]⟩, none, false, [], false⟩,
 ⟨some 4, .assign (.tmp 8), none, false, [], false⟩])
 (.seq
 (.reg false [
 ⟨some 9, .move (.tmp 4), none, false, [], false⟩,
 ⟨some 10, .binOp .geq 3 (.tmp 9) (.const (.int .i64 0)) 3, none, false, [], false⟩])
 (.cond (.tmp 10)
 (.reg false [
 ⟨some 11, .move (.tmp 0), none, false, [], false⟩,
 ⟨some 12, .move (.tmp 4), none, false, [], false⟩,
 ⟨some 13, .indexAddr 55 (.tmp 11) (.tmp 12), none, false, [], false⟩,
 ⟨none, .store 4 (.tmp 13) (.const (.bool false)), none, false, [], false⟩])
 .skip)))
 (.seq
 (.reg false [
 ⟨some 14, .load 24 (.tmp 3), none, false, [], false⟩,
 ⟨some 15, .call ⟨.value (.func 31), #[.tmp 14], #[24]⟩, none, false, [], false⟩,
 ⟨some 16, .call ⟨.builtin .len, #[.tmp 15], #[22]⟩, none, false, [], false⟩,
 ⟨some 17, .move (.const (.int .i64 0)), none, false, [], false⟩])
 (.block 0
 (.loop
 (.seq
 (.reg false [
 ⟨some 18, .binOp .lss 3 (.tmp 17) (.tmp 16) 3, none, false, [], false⟩])
 (.seq
 (.cond (.tmp 18)
 .skip
 (.exit 0))
 (.seq
 (.block 1
 (.seq
 (.reg false [
 ⟨some 19, .indexAddr 22 (.tmp 15) (.tmp 17), none, false, [], false⟩,
 ⟨some 20, .load 3 (.tmp 19), none, false, [], false⟩,
 ⟨some 6, .assign (.tmp 20), none, false, [], false⟩])
 (.reg false [
 ⟨some 21, .move (.tmp 0), none, false, [], false⟩,
 ⟨some 22, .move (.tmp 6), none, false, [], false⟩,
 ⟨some 23, .indexAddr 55 (.tmp 21) (.tmp 22), none, false, [], false⟩,
 ⟨none, .store 4 (.tmp 23) (.const (.bool true)), none, false, [], false⟩])))
 (.reg false [
 ⟨some 24, .binOp .add 3 (.tmp 17) (.const (.int .i64 1)) 3, none, false, [], false⟩,
 ⟨some 17, .move (.tmp 24), none, false, [], false⟩])))))))))
noncomputable def fi23 : FI := ⟨c23, 25, [], .plain⟩
noncomputable def c24 : XC :=
 (.seq
 (.reg false [
 ⟨some 1, .box 24 (.tmp 0), none, false, [], false⟩,
 ⟨some 2, .assign (.const (.bool false)), none, false, [], false⟩])
 (.seq
 (.seq
 (.reg false [
 ⟨some 3, .fieldAddr 24 (.tmp 1) 0, none, false, [], false⟩,
 ⟨some 4, .load 3 (.tmp 3), none, false, [], false⟩])
 (.block 0
 (.seq
 (.seq
 (.reg false [
 ⟨some 6, .binOp .eql 3 (.tmp 4) (.const (.int .i64 1)) 3, none, false, [], false⟩,
 ⟨some 5, .assign (.tmp 6), none, false, [], false⟩])
 (.cond (.tmp 5)
 .skip
 (.seq
 (.reg false [
 ⟨some 7, .binOp .eql 3 (.tmp 4) (.const (.int .i64 2)) 3, none, false, [], false⟩,
 ⟨some 5, .assign (.tmp 7), none, false, [], false⟩])
 (.cond (.tmp 5)
 .skip
 (.seq
 (.reg false [
 ⟨some 8, .binOp .eql 3 (.tmp 4) (.const (.int .i64 4)) 3, none, false, [], false⟩,
 ⟨some 5, .assign (.tmp 8), none, false, [], false⟩])
 (.cond (.tmp 5)
 .skip
 (.reg false [
 ⟨some 9, .binOp .eql 3 (.tmp 4) (.const (.int .i64 7)) 3, none, false, [], false⟩,
 ⟨some 5, .assign (.tmp 9), none, false, [], false⟩])))))))
 (.cond (.tmp 5)
 (.seq
 (.reg false [
 ⟨some 2, .assign (.const (.bool true)), none, false, [], false⟩])
 .ret)
 (.seq
 (.reg false [
 ⟨some 11, .binOp .eql 3 (.tmp 4) (.const (.int .i64 3)) 3, none, false, [], false⟩,
 ⟨some 10, .assign (.tmp 11), none, false, [], false⟩])
 (.cond (.tmp 10)
 (.seq
 (.reg false [
 ⟨some 12, .fieldAddr 24 (.tmp 1) 6, none, false, [], false⟩,
 ⟨some 13, .load 9 (.tmp 12), none, false, [], false⟩,
 ⟨some 14, .binOp .neq 9 (.tmp 13) (.const (.string ⟨#[47]⟩)) 9, none, false, [], false⟩,
 ⟨some 15, .move (.tmp 14), none, false, [], false⟩,
 ⟨some 16, .fieldAddr 24 (.tmp 1) 6, some (some 15, true), false, [], false⟩,
 ⟨some 17, .load 9 (.tmp 16), some (some 15, true), false, [], false⟩,
 ⟨some 18, .binOp .neq 9 (.tmp 17) (.const (.string ⟨#[37]⟩)) 9, some (some 15, true), false, [], false⟩,
 ⟨some 19, .pick (.tmp 15) (.tmp 18) (.const (.bool false)), none, false, [], false⟩,
 ⟨some 2, .assign (.tmp 19), none, false, [], false⟩])
 .ret)
 .skip))))))
 (.seq
 (.reg false [
 ⟨some 2, .assign (.const (.bool false)), none, false, [], false⟩])
 .ret)))
noncomputable def fi24 : FI := ⟨c24, 20, [.tmp 2], .plain⟩
noncomputable def c25 : XC :=
 (.seq
 (.reg false [
 ⟨some 4, .move (.tmp 0), none, false, [], false⟩,
 ⟨some 5, .call ⟨.builtin .len, #[.tmp 4], #[26]⟩, none, false, [], false⟩,
 ⟨some 6, .binOp .sub 3 (.tmp 5) (.const (.int .i64 1)) 3, none, false, [], false⟩,
 ⟨some 2, .assign (.const (.int .i64 0)), none, false, [], false⟩,
 ⟨some 3, .assign (.tmp 6), none, false, [], false⟩])
 (.block 0
 (.loop
 (.seq
 (.seq
 (.reg false [
 ⟨some 7, .move (.tmp 2), none, false, [], false⟩,
 ⟨some 8, .move (.tmp 3), none, false, [], false⟩,
 ⟨some 9, .binOp .lss 3 (.tmp 7) (.tmp 8) 3, none, false, [], false⟩])
 (.cond (.tmp 9)
 .skip
 (.exit 0)))
 (.seq
 (.block 1
 (.reg true [
 ⟨some 14, .move (.tmp 0), none, false, [], false⟩,
 ⟨some 15, .move (.tmp 2), none, false, [], false⟩,
 ⟨some 18, .move (.tmp 0), none, false, [], false⟩,
 ⟨some 19, .move (.tmp 3), none, false, [], false⟩,
 ⟨some 20, .indexAddr 26 (.tmp 18) (.tmp 19), none, false, [], false⟩,
 ⟨some 21, .load 24 (.tmp 20), none, false, [], false⟩,
 ⟨some 22, .move (.tmp 0), none, false, [], false⟩,
 ⟨some 23, .move (.tmp 2), none, false, [], false⟩,
 ⟨some 24, .indexAddr 26 (.tmp 22) (.tmp 23), none, false, [], false⟩,
 ⟨some 25, .load 24 (.tmp 24), none, false, [], false⟩,
 ⟨some 26, .indexAddr 26 (.tmp 14) (.tmp 15), none, false, [], false⟩,
 ⟨none, .store 24 (.tmp 26) (.tmp 21), none, false, [false, false, true, true], false⟩,
 ⟨some 16, .move (.tmp 0), none, false, [], false⟩,
 ⟨some 17, .move (.tmp 3), none, false, [], false⟩,
 ⟨some 27, .indexAddr 26 (.tmp 16) (.tmp 17), none, false, [], false⟩,
 ⟨none, .store 24 (.tmp 27) (.tmp 25), none, false, [], false⟩]))
 (.reg false [
 ⟨some 10, .move (.tmp 2), none, false, [], false⟩,
 ⟨some 11, .binOp .add 3 (.tmp 10) (.const (.int .i64 1)) 3, none, false, [], false⟩,
 ⟨some 12, .move (.tmp 3), none, false, [], false⟩,
 ⟨some 13, .binOp .sub 3 (.tmp 12) (.const (.int .i64 1)) 3, none, false, [], false⟩,
 ⟨some 2, .assign (.tmp 11), none, false, [], false⟩,
 ⟨some 3, .assign (.tmp 13), none, false, [], false⟩]))))))
noncomputable def fi25 : FI := ⟨c25, 28, [], .plain⟩
noncomputable def c26 : XC :=
 (.seq
 (.reg false [
 ⟨some 4, .assign (.const (.bool false)), none, false, [], false⟩])
 (.seq
 (.seq
 (.reg false [
 ⟨some 6, .move (.tmp 0), none, false, [], false⟩,
 ⟨some 7, .call ⟨.builtin .len, #[.tmp 6], #[22]⟩, none, false, [], false⟩,
 ⟨some 8, .move (.tmp 1), none, false, [], false⟩,
 ⟨some 9, .call ⟨.builtin .len, #[.tmp 8], #[22]⟩, none, false, [], false⟩,
 ⟨some 10, .binOp .neq 3 (.tmp 7) (.tmp 9) 3, none, false, [], false⟩])
 (.cond (.tmp 10)
 (.seq
 (.reg false [
 ⟨some 4, .assign (.const (.bool false)), none, false, [], false⟩])
 .ret)
 .skip))
 (.seq
 (.seq
 (.reg false [
 ⟨some 5, .assign (.const (.int .i64 0)), none, false, [], false⟩])
 (.block 0
 (.loop
 (.seq
 (.seq
 (.reg false [
 ⟨some 11, .move (.tmp 5), none, false, [], false⟩,
 ⟨some 12, .move (.tmp 0), none, false, [], false⟩,
 ⟨some 13, .call ⟨.builtin .len, #[.tmp 12], #[22]⟩, none, false, [], false⟩,
 ⟨some 14, .binOp .lss 3 (.tmp 11) (.tmp 13) 3, none, false, [], false⟩])
 (.cond (.tmp 14)
 .skip
 (.exit 0)))
 (.seq
 (.block 1
 (.seq
 (.reg true [
 ⟨some 17, .move (.tmp 0), none, false, [], false⟩,
 ⟨some 18, .move (.tmp 5), none, false, [], false⟩,
 ⟨some 19, .indexAddr 22 (.tmp 17) (.tmp 18), none, false, [], false⟩,
 ⟨some 20, .load 3 (.tmp 19), none, false, [], false⟩,
 ⟨some 21, .move (.tmp 1), none, false, [], false⟩,
 ⟨some 22, .move (.tmp 5), none, false, [], false⟩,
 ⟨some 23, .indexAddr 22 (.tmp 21) (.tmp 22), none, false, [], false⟩,
 ⟨some 24, .load 3 (.tmp 23), none, false, [], false⟩,
 ⟨some 25, .binOp .eql 3 (.tmp 20) (.tmp 24) 3, none, false, [], false⟩,
 ⟨some 26, .unOp .not 4 (.tmp 25), none, false, [], false⟩])
 (.cond (.tmp 26)
 (.seq
 (.reg false [
 ⟨some 4, .assign (.const (.bool false)), none, false, [], false⟩])
 .ret)
 .skip)))
 (.reg false [
 ⟨some 15, .move (.tmp 5), none, false, [], false⟩,
 ⟨some 16, .binOp .add 3 (.tmp 15) (.const (.int .i64 1)) 3, none, false, [], false⟩,
 ⟨some 5, .assign (.tmp 16), none, false, [], false⟩]))))))
 (.seq
 (.reg false [
 ⟨some 4, .assign (.const (.bool true)), none, false, [], false⟩])
 .ret))))
noncomputable def fi26 : FI := ⟨c26, 27, [.tmp 4], .plain⟩
noncomputable def c27 : XC :=
 (.seq
 (.reg false [
 ⟨some 2, .assign (.const (.slice none 0 0)), none, false, [], false⟩])
 (.seq
 (.seq
 (.reg false [
 ⟨some 3, .move (.tmp 0), none, false, [], false⟩,
 ⟨some 4, .binOp .eql 22 (.tmp 3) (.const (.slice none 0 0)) 22, none, false, [], false⟩])
 (.cond (.tmp 4)
 (.seq
 (.reg false [
 ⟨some 2, .assign (.const (.slice none 0 0)), none, false, [], false⟩])
 .ret)
 .skip))
 (.seq
 (.reg false [
 ⟨some 5, .buildSlice 22 0 #[], none, false, [], false⟩,
 ⟨some 6, .move (.tmp 0), none, false, [], false⟩,
 ⟨some 7, .call ⟨.builtin .append, #[.tmp 5, .tmp 6], #[22, 22]⟩, none, false, [], false⟩,
 ⟨some 2, .assign (.tmp 7), none, false, [], false⟩])
 .ret)))
noncomputable def fi27 : FI := ⟨c27, 8, [.tmp 2], .plain⟩
noncomputable def c28 : XC :=
 (.seq
 (.reg false [
 ⟨some 2, .assign (.const (.slice none 0 0)), none, false, [], false⟩])
 (.seq
 (.seq
 (.reg false [
 ⟨some 3, .move (.tmp 0), none, false, [], false⟩,
 ⟨some 4, .binOp .eql 34 (.tmp 3) (.const (.slice none 0 0)) 34, none, false, [], false⟩])
 (.cond (.tmp 4)
 (.seq
 (.reg false [
 ⟨some 2, .assign (.const (.slice none 0 0)), none, false, [], false⟩])
 .ret)
 .skip))
 (.seq
 (.reg false [
 ⟨some 5, .buildSlice 34 0 #[], none, false, [], false⟩,
 ⟨some 6, .move (.tmp 0), none, false, [], false⟩,
 ⟨some 7, .call ⟨.builtin .append, #[.tmp 5, .tmp 6], #[34, 34]⟩, none, false, [], false⟩,
 ⟨some 2, .assign (.tmp 7), none, false, [], false⟩])
 .ret)))
noncomputable def fi28 : FI := ⟨c28, 8, [.tmp 2], .plain⟩
noncomputable def c29 : XC :=
 (.seq
 (.reg false [
 ⟨some 2, .assign (.const (.slice none 0 0)), none, false, [], false⟩])
 (.seq
 (.seq
 (.reg false [
 ⟨some 3, .move (.tmp 0), none, false, [], false⟩,
 ⟨some 4, .binOp .eql 26 (.tmp 3) (.const (.slice none 0 0)) 26, none, false, [], false⟩])
 (.cond (.tmp 4)
 (.seq
 (.reg false [
 ⟨some 2, .assign (.const (.slice none 0 0)), none, false, [], false⟩])
 .ret)
 .skip))
 (.seq
 (.reg false [
 ⟨some 5, .buildSlice 26 0 #[], none, false, [], false⟩,
 ⟨some 6, .move (.tmp 0), none, false, [], false⟩,
 ⟨some 7, .call ⟨.builtin .append, #[.tmp 5, .tmp 6], #[26, 26]⟩, none, false, [], false⟩,
 ⟨some 2, .assign (.tmp 7), none, false, [], false⟩])
 .ret)))
noncomputable def fi29 : FI := ⟨c29, 8, [.tmp 2], .plain⟩
noncomputable def c30 : XC :=
 (.seq
 (.reg false [
 ⟨some 4, .assign (.const (.int .i64 0)), none, false, [], false⟩])
 (.seq
 (.seq
 (.reg false [
 ⟨some 8, .move (.tmp 0), none, false, [], false⟩,
 ⟨some 9, .nilCheck (.tmp 8), none, false, [], false⟩,
 ⟨some 10, .fieldAddr 44 (.tmp 9) 1, none, false, [], false⟩,
 ⟨some 11, .load 42 (.tmp 10), none, false, [], false⟩,
 ⟨some 12, .move (.tmp 1), none, false, [], false⟩,
 ⟨some 13, .lookup 42 (.tmp 11) (.tmp 12) true, none, false, [], false⟩,
 ⟨some 7, .move (.tmp 13), none, false, [], false⟩,
 ⟨some 14, .extract (.tmp 7) 0, none, false, [], false⟩,
 ⟨some 15, .extract (.tmp 7) 1, none, false, [], false⟩,
 ⟨some 5, .alloc 75, none, false, [], false⟩,
 ⟨none, .store 75 (.tmp 5) (.tmp 14), none, false, [], false⟩,
 ⟨some 6, .assign (.tmp 15), none, false, [], false⟩])
 (.seq
 (.reg false [
 ⟨some 16, .move (.tmp 6), none, false, [], false⟩,
 ⟨some 17, .move (.tmp 16), none, false, [], false⟩,
 ⟨some 18, .fieldAddr 75 (.tmp 5) 0, some (some 17, true), false, [], false⟩,
 ⟨some 19, .load 4 (.tmp 18), some (some 17, true), false, [], false⟩,
 ⟨some 20, .pick (.tmp 17) (.tmp 19) (.const (.bool false)), none, false, [], false⟩])
 (.cond (.tmp 20)
 (.seq
 (.reg false [
 ⟨some 21, .fieldAddr 75 (.tmp 5) 1, none, false, [], false⟩,
 ⟨some 22, .load 3 (.tmp 21), none, false, [], false⟩,
 ⟨some 4, .assign (.tmp 22), none, false, [], false⟩])
 .ret)
 .skip)))
 (.seq
 (.reg false [
 ⟨some 23, .move (.tmp 1), none, false, [], false⟩,
 ⟨some 4, .assign (.tmp 23), none, false, [], false⟩])
 .ret)))
noncomputable def fi30 : FI := ⟨c30, 24, [.tmp 4], .plain⟩
noncomputable def c31 : XC :=
 (.seq
 (.reg false [
 ⟨some 1, .box 24 (.tmp 0), none, false, [], false⟩,
 ⟨some 2, .assign (.const (.slice none 0 0)), none, false, [], false⟩])
 (.seq
 (.seq
 (.reg false [
 ⟨some 3, .fieldAddr 24 (.tmp 1) 0, none, false, [], false⟩,
 ⟨some 4, .load 3 (.tmp 3), none, false, [], false⟩])
 (.block 0
 (.seq
 (.seq
 (.reg false [
 ⟨some 6, .binOp .eql 3 (.tmp 4) (.const (.int .i64 2)) 3, none, false, [], false⟩,
 ⟨some 5, .assign (.tmp 6), none, false, [], false⟩])
 (.cond (.tmp 5)
 .skip
 (.seq
 (.reg false [
 ⟨some 7, .binOp .eql 3 (.tmp 4) (.const (.int .i64 4)) 3, none, false, [], false⟩,
 ⟨some 5, .assign (.tmp 7), none, false, [], false⟩])
 (.cond (.tmp 5)
 .skip
 (.seq
 (.reg false [
 ⟨some 8, .binOp .eql 3 (.tmp 4) (.const (.int .i64 5)) 3, none, false, [], false⟩,
 ⟨some 5, .assign (.tmp 8), none, false, [], false⟩])
 (.cond (.tmp 5)
 .skip
 (.seq
 (.reg false [
 ⟨some 9, .binOp .eql 3 (.tmp 4) (.const (.int .i64 8)) 3, none, false, [], false⟩,
 ⟨some 5, .assign (.tmp 9), none, false, [], false⟩])
 (.cond (.tmp 5)
 .skip
 (.reg false [
 ⟨some 10, .binOp .eql 3 (.tmp 4) (.const (.int .i64 11)) 3, none, false, [], false⟩,
 ⟨some 5, .assign (.tmp 10), none, false, [], false⟩])))))))))
 (.cond (.tmp 5)
 (.seq
 (.reg false [
 ⟨some 11, .fieldAddr 24 (.tmp 1) 3, none, false, [], false⟩,
 ⟨some 12, .load 3 (.tmp 11), none, false, [], false⟩,
 ⟨some 13, .buildSlice 22 1 #[(0, .tmp 12)], none, false, [], false⟩,
 ⟨some 2, .assign (.tmp 13), none, false, [], false⟩])
 .ret)
 (.seq
 (.seq
 (.reg false [
 ⟨some 15, .binOp .eql 3 (.tmp 4) (.const (.int .i64 3)) 3, none, false, [], false⟩,
 ⟨some 14, .assign (.tmp 15), none, false, [], false⟩])
 (.cond (.tmp 14)
 .skip
 (.reg false [
 ⟨some 16, .binOp .eql 3 (.tmp 4) (.const (.int .i64 6)) 3, none, false, [], false⟩,
 ⟨some 14, .assign (.tmp 16), none, false, [], false⟩])))
 (.cond (.tmp 14)
 (.seq
 (.reg false [
 ⟨some 17, .fieldAddr 24 (.tmp 1) 3, none, false, [], false⟩,
 ⟨some 18, .load 3 (.tmp 17), none, false, [], false⟩,
 ⟨some 19, .fieldAddr 24 (.tmp 1) 4, none, false, [], false⟩,
 ⟨some 20, .load 3 (.tmp 19), none, false, [], false⟩,
 ⟨some 21, .buildSlice 22 2 #[(0, .tmp 18), (1, .tmp 20)], none, false, [], false⟩,
 ⟨some 2, .assign (.tmp 21), none, false, [], false⟩])
 .ret)
 (.seq
 (.reg false [
 ⟨some 23, .binOp .eql 3 (.tmp 4) (.const (.int .i64 9)) 3, none, false, [], false⟩,
 ⟨some 22, .assign (.tmp 23), none, false, [], false⟩])
 (.cond (.tmp 22)
 (.seq
 (.reg false [
 ⟨some 24, .fieldAddr 24 (.tmp 1) 7, none, false, [], false⟩,
 ⟨some 25, .load 22 (.tmp 24), none, false, [], false⟩,
 ⟨some 26, .call ⟨.value (.func 27), #[.tmp 25], #[22]⟩, none, false, [], false⟩,
 ⟨some 2, .assign (.tmp 26), none, false, [], false⟩])
 .ret)
 .skip))))))))
 (.seq
 (.reg false [
 ⟨some 2, .assign (.const (.slice none 0 0)), none, false, [], false⟩])
 .ret)))
noncomputable def fi31 : FI := ⟨c31, 27, [.tmp 2], .plain⟩
noncomputable def c32 : XC :=
 (.seq
 (.reg false [
 ⟨some 4, .assign (.const (.int .i64 0)), none, false, [], false⟩,
 ⟨some 5, .assign (.const (.bool false)), none, false, [], false⟩])
 (.seq
 (.reg false [
 ⟨some 9, .move (.tmp 0), none, false, [], false⟩,
 ⟨some 10, .nilCheck (.tmp 9), none, false, [], false⟩,
 ⟨some 11, .fieldAddr 44 (.tmp 10) 1, none, false, [], false⟩,
 ⟨some 12, .load 42 (.tmp 11), none, false, [], false⟩,
 ⟨some 13, .move (.tmp 1), none, false, [], false⟩,
 ⟨some 14, .lookup 42 (.tmp 12) (.tmp 13) true, none, false, [], false⟩,
 ⟨some 8, .move (.tmp 14), none, false, [], false⟩,
 ⟨some 15, .extract (.tmp 8) 0, none, false, [], false⟩,
 ⟨some 16, .extract (.tmp 8) 1, none, false, [], false⟩,
 ⟨some 6, .alloc 75, none, false, [], false⟩,
 ⟨none, .store 75 (.tmp 6) (.tmp 15), none, false, [], false⟩,
 ⟨some 7, .assign (.tmp 16), none, false, [], false⟩])
 (.seq
 (.reg true [
 ⟨some 17, .fieldAddr 75 (.tmp 6) 1, none, false, [], false⟩,
 ⟨some 18, .load 3 (.tmp 17), none, false, [], false⟩,
 ⟨some 19, .move (.tmp 7), none, false, [], false⟩,
 ⟨some 20, .move (.tmp 19), none, false, [], false⟩,
 ⟨some 21, .fieldAddr 75 (.tmp 6) 0, some (some 20, true), false, [], false⟩,
 ⟨some 22, .load 4 (.tmp 21), some (some 20, true), false, [], false⟩,
 ⟨some 23, .unOp .not 4 (.tmp 22), some (some 20, true), false, [], false⟩,
 ⟨some 24, .pick (.tmp 20) (.tmp 23) (.const (.bool false)), none, false, [], false⟩,
 ⟨some 4, .assign (.tmp 18), none, false, [], false⟩,
 ⟨some 5, .assign (.tmp 24), none, false, [], false⟩])
 .ret)))
noncomputable def fi32 : FI := ⟨c32, 25, [.tmp 4, .tmp 5], .plain⟩
noncomputable def c33 : XC :=
 (.seq
 (.reg false [
 ⟨some 4, .assign (.const (.int .i64 0)), none, false, [], false⟩])
 (.seq
 (.seq
 (.reg false [
 ⟨some 5, .move (.tmp 0), none, false, [], false⟩])
 (.block 0
 (.seq
 (.reg false [
 ⟨some 7, .binOp .eql 3 (.tmp 5) (.const (.int .i64 3)) 3, none, false, [], false⟩,
 ⟨some 6, .assign (.tmp 7), none, false, [], false⟩])
 (.cond (.tmp 6)
 (.seq
 (.reg false [
 ⟨some 8, .move (.tmp 1), none, false, [], false⟩,
 ⟨some 9, .convert 3 84 (.tmp 8), none, false, [], false⟩,
 ⟨some 10, .convert 84 3 (.tmp 9), none, false, [], false⟩,
 ⟨some 4, .assign (.tmp 10), none, false, [], false⟩])
 .ret)
 (.seq
 (.reg false [
 ⟨some 12, .binOp .eql 3 (.tmp 5) (.const (.int .i64 1)) 3, none, false, [], false⟩,
 ⟨some 11, .assign (.tmp 12), none, false, [], false⟩])
 (.cond (.tmp 11)
 (.seq
 (.reg false [
 ⟨some 13, .move (.tmp 1), none, false, [], false⟩,
 ⟨some 14, .convert 3 21 (.tmp 13), none, false, [], false⟩,
 ⟨some 15, .convert 21 3 (.tmp 14), none, false, [], false⟩,
 ⟨some 4, .assign (.tmp 15), none, false, [], false⟩])
 .ret)
 (.seq
 (.reg false [
 ⟨some 17, .binOp .eql 3 (.tmp 5) (.const (.int .i64 2)) 3, none, false, [], false⟩,
 ⟨some 16, .assign (.tmp 17), none, false, [], false⟩])
 (.cond (.tmp 16)
 (.seq
 (.reg false [
 ⟨some 18, .move (.tmp 1), none, false, [], false⟩,
 ⟨some 4, .assign (.tmp 18), none, false, [], false⟩])
 .ret)
 .skip))))))))
 (.seq
 (.reg false [
 ⟨some 4, .assign (.const (.int .i64 0)), none, false, [], false⟩])
 .ret)))
noncomputable def fi33 : FI := ⟨c33, 19, [.tmp 4], .plain⟩
noncomputable def c34 : XC :=
 (.seq
 (.reg false [
 ⟨some 8, .assign (.const (.int .i64 0)), none, false, [], false⟩,
 ⟨some 9, .assign (.const (.int .i64 0)), none, false, [], false⟩])
 (.seq
 (.seq
 (.reg false [
 ⟨some 10, .move (.tmp 0), none, false, [], false⟩])
 (.block 0
 (.seq
 (.reg false [
 ⟨some 12, .binOp .eql 3 (.tmp 10) (.const (.int .i64 1)) 3, none, false, [], false⟩,
 ⟨some 11, .assign (.tmp 12), none, false, [], false⟩])
 (.cond (.tmp 11)
 (.seq
 (.reg false [
 ⟨some 13, .move (.tmp 1), none, false, [], false⟩,
 ⟨some 14, .move (.tmp 2), none, false, [], false⟩,
 ⟨some 15, .convert 3 21 (.tmp 14), none, false, [], false⟩,
 ⟨some 16, .move (.tmp 3), none, false, [], false⟩,
 ⟨some 17, .convert 3 21 (.tmp 16), none, false, [], false⟩,
 ⟨some 18, .call ⟨.value (.func 41), #[.tmp 13, .tmp 15, .tmp 17, .const (.int .i64 32)], #[9, 21, 21, 3]⟩, none, false, [], false⟩,
 ⟨some 19, .extract (.tmp 18) 0, none, false, [], false⟩,
 ⟨some 20, .extract (.tmp 18) 1, none, false, [], false⟩,
 ⟨some 8, .assign (.tmp 19), none, false, [], false⟩,
 ⟨some 9, .assign (.tmp 20), none, false, [], false⟩])
 .ret)
 (.seq
 (.reg false [
 ⟨some 22, .binOp .eql 3 (.tmp 10) (.const (.int .i64 2)) 3, none, false, [], false⟩,
 ⟨some 21, .assign (.tmp 22), none, false, [], false⟩])
 (.cond (.tmp 21)
 (.seq
 (.reg false [
 ⟨some 23, .move (.tmp 1), none, false, [], false⟩,
 ⟨some 24, .move (.tmp 2), none, false, [], false⟩,
 ⟨some 25, .move (.tmp 3), none, false, [], false⟩,
 ⟨some 26, .call ⟨.value (.func 42), #[.tmp 23, .tmp 24, .tmp 25, .const (.int .i64 64)], #[9, 2, 2, 3]⟩, none, false, [], false⟩,
 ⟨some 27, .extract (.tmp 26) 0, none, false, [], false⟩,
 ⟨some 28, .extract (.tmp 26) 1, none, false, [], false⟩,
 ⟨some 8, .assign (.tmp 27), none, false, [], false⟩,
 ⟨some 9, .assign (.tmp 28), none, false, [], false⟩])
 .ret)
 .skip))))))
 (.seq
 (.reg false [
 ⟨some 8, .assign (.const (.int .i64 0)), none, false, [], false⟩,
 ⟨some 9, .assign (.const (.int .i64 0)), none, false, [], false⟩])
 .ret)))
noncomputable def fi34 : FI := ⟨c34, 29, [.tmp 8, .tmp 9], .plain⟩
noncomputable def c35 : XC :=
 (.seq
 (.reg false [
 ⟨some 6, .move (.tmp 0), none, false, [], false⟩,
 ⟨some 7, .range 42 (.tmp 6), none, false, [], false⟩])
 (.block 0
 (.loop
 (.seq
 (.reg false [
 ⟨some 8, .next (.tmp 7) false, none, false, [], false⟩,
 ⟨some 9, .extract (.tmp 8) 0, none, false, [], false⟩])
 (.seq
 (.cond (.tmp 9)
 .skip
 (.exit 0))
 (.block 1
 (.seq
 (.reg false [
 ⟨some 10, .entry (.tmp 7), none, false, [], false⟩,
 ⟨some 11, .extract (.tmp 10) 0, none, false, [], false⟩,
 ⟨some 12, .extract (.tmp 10) 1, none, false, [], false⟩,
 ⟨some 5, .alloc 75, none, false, [], false⟩,
 ⟨some 4, .assign (.tmp 11), none, false, [], false⟩,
 ⟨none, .store 75 (.tmp 5) (.tmp 12), none, false, [], false⟩])
 (.seq
 (.reg false [
 ⟨some 13, .move (.tmp 1), none, false, [], false⟩,
 ⟨some 14, .move (.tmp 4), none, false, [], false⟩,
 ⟨some 15, .load 75 (.tmp 5), none, false, [], false⟩,
 ⟨some 16, .call ⟨.value (.tmp 13), #[.tmp 14, .tmp 15], #[3, 75]⟩, none, false, [], false⟩])
 (.cond (.tmp 16)
 (.reg false [
 ⟨some 17, .move (.tmp 0), none, false, [], false⟩,
 ⟨some 18, .move (.tmp 4), none, false, [], false⟩,
 ⟨none, .call ⟨.builtin .delete, #[.tmp 17, .tmp 18], #[42, 3]⟩, none, false, [], false⟩])
 .skip)))))))))
noncomputable def fi35 : FI := ⟨c35, 19, [], .plain⟩
noncomputable def c36 : XC :=
 (.seq
 (.reg false [
 ⟨some 4, .box 75 (.tmp 1), none, false, [], false⟩,
 ⟨some 5, .assign (.const (.bool false)), none, false, [], false⟩])
 (.seq
 (.reg false [
 ⟨some 6, .fieldAddr 75 (.tmp 4) 0, none, false, [], false⟩,
 ⟨some 7, .load 4 (.tmp 6), none, false, [], false⟩,
 ⟨some 8, .move (.tmp 7), none, false, [], false⟩,
 ⟨some 9, .fieldAddr 75 (.tmp 4) 1, some (some 8, true), false, [], false⟩,
 ⟨some 10, .load 3 (.tmp 9), some (some 8, true), false, [], false⟩,
 ⟨some 11, .load 3 (.tmp 2), some (some 8, true), false, [], false⟩,
 ⟨some 12, .binOp .eql 3 (.tmp 10) (.tmp 11) 3, some (some 8, true), false, [], false⟩,
 ⟨some 13, .pick (.tmp 8) (.tmp 12) (.const (.bool false)), none, false, [], false⟩,
 ⟨some 5, .assign (.tmp 13), none, false, [], false⟩])
 .ret))
noncomputable def fi36 : FI := ⟨c36, 14, [.tmp 5], .plain⟩
noncomputable def c37 : XC :=
 (.seq
 (.reg false [
 ⟨some 1, .box 34 (.tmp 0), none, false, [], false⟩,
 ⟨some 2, .assign (.const .nilFunc), none, false, [], false⟩])
 (.seq
 (.reg false [
 ⟨some 3, .makeFunc (.func 43) #[] #[.tmp 1], none, false, [], false⟩,
 ⟨some 2, .assign (.tmp 3), none, false, [], false⟩])
 .ret))
noncomputable def fi37 : FI := ⟨c37, 4, [.tmp 2], .plain⟩
noncomputable def c38 : XC :=
 (.seq
 (.reg false [
 ⟨some 4, .assign (.const (.bool false)), none, false, [], false⟩])
 (.seq
 (.seq
 (.reg false [
 ⟨some 6, .move (.tmp 0), none, false, [], false⟩,
 ⟨some 7, .call ⟨.builtin .len, #[.tmp 6], #[55]⟩, none, false, [], false⟩,
 ⟨some 8, .move (.tmp 1), none, false, [], false⟩,
 ⟨some 9, .call ⟨.builtin .len, #[.tmp 8], #[55]⟩, none, false, [], false⟩,
 ⟨some 10, .binOp .neq 3 (.tmp 7) (.tmp 9) 3, none, false, [], false⟩])
 (.cond (.tmp 10)
 (.seq
 (.reg false [
 ⟨some 4, .assign (.const (.bool false)), none, false, [], false⟩])
 .ret)
 .skip))
 (.seq
 (.seq
 (.reg false [
 ⟨some 11, .move (.tmp 0), none, false, [], false⟩,
 ⟨some 12, .call ⟨.builtin .len, #[.tmp 11], #[55]⟩, none, false, [], false⟩,
 ⟨some 13, .move (.const (.int .i64 0)), none, false, [], false⟩])
 (.block 0
 (.loop
 (.seq
 (.reg false [
 ⟨some 14, .binOp .lss 3 (.tmp 13) (.tmp 12) 3, none, false, [], false⟩])
 (.seq
 (.cond (.tmp 14)
 .skip
 (.exit 0))
 (.seq
 (.block 1
 (.seq
 (.reg false [
 ⟨some 15, .move (.tmp 13), none, false, [], false⟩,
 ⟨some 5, .assign (.tmp 15), none, false, [], false⟩])
 (.seq
 (.reg true [
 ⟨some 16, .move (.tmp 0), none, false, [], false⟩,
 ⟨some 17, .move (.tmp 5), none, false, [], false⟩,
 ⟨some 18, .indexAddr 55 (.tmp 16) (.tmp 17), none, false, [], false⟩,
 ⟨some 19, .load 4 (.tmp 18), none, false, [], false⟩,
 ⟨some 20, .move (.tmp 1), none, false, [], false⟩,
 ⟨some 21, .move (.tmp 5), none, false, [], false⟩,
 ⟨some 22, .indexAddr 55 (.tmp 20) (.tmp 21), none, false, [], false⟩,
 ⟨some 23, .load 4 (.tmp 22), none, false, [], false⟩,
 ⟨some 24, .binOp .neq 4 (.tmp 19) (.tmp 23) 4, none, false, [], false⟩])
 (.cond (.tmp 24)
 (.seq
 (.reg false [
 ⟨some 4, .assign (.const (.bool false)), none, false, [], false⟩])
 .ret)
 .skip))))
 (.reg false [
 ⟨some 25, .binOp .add 3 (.tmp 13) (.const (.int .i64 1)) 3, none, false, [], false⟩,
 ⟨some 13, .move (.tmp 25), none, false, [], false⟩])))))))
 (.seq
 (.reg false [
 ⟨some 4, .assign (.const (.bool true)), none, false, [], false⟩])
 .ret))))
noncomputable def fi38 : FI := ⟨c38, 26, [.tmp 4], .plain⟩
noncomputable def c39 : XC :=
 (.seq
 (.reg false [
 ⟨some 1, .box 28 (.tmp 0), none, false, [], false⟩,
 ⟨some 2, .assign (.const (.slice none 0 0)), none, false, [], false⟩])
 (.seq
 (.seq
 (.reg false [
 ⟨some 3, .fieldAddr 28 (.tmp 1) 0, none, false, [], false⟩,
 ⟨some 4, .load 3 (.tmp 3), none, false, [], false⟩])
 (.block 0
 (.seq
 (.reg false [
 ⟨some 6, .binOp .eql 3 (.tmp 4) (.const (.int .i64 1)) 3, none, false, [], false⟩,
 ⟨some 5, .assign (.tmp 6), none, false, [], false⟩])
 (.cond (.tmp 5)
 (.seq
 (.reg false [
 ⟨some 7, .fieldAddr 28 (.tmp 1) 2, none, false, [], false⟩,
 ⟨some 8, .load 3 (.tmp 7), none, false, [], false⟩,
 ⟨some 9, .buildSlice 22 1 #[(0, .tmp 8)], none, false, [], false⟩,
 ⟨some 2, .assign (.tmp 9), none, false, [], false⟩])
 .ret)
 (.seq
 (.reg false [
 ⟨some 11, .binOp .eql 3 (.tmp 4) (.const (.int .i64 2)) 3, none, false, [], false⟩,
 ⟨some 10, .assign (.tmp 11), none, false, [], false⟩])
 (.cond (.tmp 10)
 (.seq
 (.reg false [
 ⟨some 12, .fieldAddr 28 (.tmp 1) 2, none, false, [], false⟩,
 ⟨some 13, .load 3 (.tmp 12), none, false, [], false⟩,
 ⟨some 14, .fieldAddr 28 (.tmp 1) 3, none, false, [], false⟩,
 ⟨some 15, .load 3 (.tmp 14), none, false, [], false⟩,
 ⟨some 16, .buildSlice 22 2 #[(0, .tmp 13), (1, .tmp 15)], none, false, [], false⟩,
 ⟨some 2, .assign (.tmp 16), none, false, [], false⟩])
 .ret)
 .skip))))))
 (.seq
 (.reg false [
 ⟨some 2, .assign (.const (.slice none 0 0)), none, false, [], false⟩])
 .ret)))
noncomputable def fi39 : FI := ⟨c39, 17, [.tmp 2], .plain⟩
noncomputable def c40 : XC :=
 (.seq
 (.reg false [
 ⟨some 4, .load 26 (.tmp 1), none, false, [], false⟩,
 ⟨some 5, .call ⟨.builtin .len, #[.tmp 4], #[26]⟩, none, false, [], false⟩,
 ⟨some 6, .binOp .sub 3 (.tmp 5) (.const (.int .i64 1)) 3, none, false, [], false⟩,
 ⟨some 3, .assign (.tmp 6), none, false, [], false⟩])
 (.block 0
 (.loop
 (.seq
 (.seq
 (.reg false [
 ⟨some 7, .move (.tmp 3), none, false, [], false⟩,
 ⟨some 8, .binOp .geq 3 (.tmp 7) (.const (.int .i64 0)) 3, none, false, [], false⟩])
 (.cond (.tmp 8)
 .skip
 (.exit 0)))
 (.seq
 (.block 1
 (.seq
 (.reg false [
 ⟨some 11, .move (.tmp 0), none, false, [], false⟩,
 ⟨some 12, .move (.tmp 3), none, false, [], false⟩,
 ⟨some 13, .load 26 (.tmp 1), none, false, [], false⟩,
 ⟨some 14, .move (.tmp 3), none, false, [], false⟩,
 ⟨some 15, .indexAddr 26 (.tmp 13) (.tmp 14), none, false, [], false⟩,
 ⟨some 16, .load 24 (.tmp 15), none, false, [], false⟩,
 ⟨some 17, .call ⟨.value (.tmp 11), #[.tmp 12, .tmp 16], #[3, 24]⟩, none, false, [], false⟩,
 ⟨some 18, .unOp .not 4 (.tmp 17), none, false, [], false⟩])
 (.cond (.tmp 18)
 .ret
 .skip)))
 (.reg false [
 ⟨some 9, .move (.tmp 3), none, false, [], false⟩,
 ⟨some 10, .binOp .sub 3 (.tmp 9) (.const (.int .i64 1)) 3, none, false, [], false⟩,
 ⟨some 3, .assign (.tmp 10), none, false, [], false⟩]))))))
noncomputable def fi40 : FI := ⟨c40, 19, [], .itf (.seq (.reg (.reg false [
 ⟨some 4, .load 26 (.tmp 1), none, false, [], false⟩,
 ⟨some 5, .call ⟨.builtin .len, #[.tmp 4], #[26]⟩, none, false, [], false⟩,
 ⟨some 6, .binOp .sub 3 (.tmp 5) (.const (.int .i64 1)) 3, none, false, [], false⟩,
 ⟨some 3, .assign (.tmp 6), none, false, [], false⟩])) (.block 0 (.loop (.seq (.seq (.reg (.reg false [
 ⟨some 7, .move (.tmp 3), none, false, [], false⟩,
 ⟨some 8, .binOp .geq 3 (.tmp 7) (.const (.int .i64 0)) 3, none, false, [], false⟩])) (.cond (.tmp 8) .skip (.exit 0))) (.seq (.block 1 (.seq (.yreg (.reg false [
 ]) (none) 11 (.reg false [
 ⟨some 12, .move (.tmp 3), none, false, [], false⟩,
 ⟨some 13, .load 26 (.tmp 1), none, false, [], false⟩,
 ⟨some 14, .move (.tmp 3), none, false, [], false⟩,
 ⟨some 15, .indexAddr 26 (.tmp 13) (.tmp 14), none, false, [], false⟩,
 ⟨some 16, .load 24 (.tmp 15), none, false, [], false⟩]) 17 [.tmp 12, .tmp 16] (.reg false [
 ⟨some 18, .unOp .not 4 (.tmp 17), none, false, [], false⟩])) (.cond (.tmp 18) .ret .skip))) (.reg (.reg false [
 ⟨some 9, .move (.tmp 3), none, false, [], false⟩,
 ⟨some 10, .binOp .sub 3 (.tmp 9) (.const (.int .i64 1)) 3, none, false, [], false⟩,
 ⟨some 3, .assign (.tmp 10), none, false, [], false⟩])))))))⟩
noncomputable def c41 : XC :=
 (.seq
 (.reg false [
 ⟨some 8, .assign (.const (.int .i64 0)), none, false, [], false⟩,
 ⟨some 9, .assign (.const (.int .i64 0)), none, false, [], false⟩])
 (.seq
 (.seq
 (.reg false [
 ⟨some 12, .move (.tmp 0), none, false, [], false⟩,
 ⟨some 13, .binOp .eql 9 (.tmp 12) (.const (.string ⟨#[47]⟩)) 9, none, false, [], false⟩,
 ⟨some 14, .move (.tmp 13), none, false, [], false⟩,
 ⟨some 15, .move (.tmp 0), some (some 14, false), false, [], false⟩,
 ⟨some 16, .binOp .eql 9 (.tmp 15) (.const (.string ⟨#[37]⟩)) 9, some (some 14, false), false, [], false⟩,
 ⟨some 17, .pick (.tmp 14) (.const (.bool true)) (.tmp 16), none, false, [], false⟩])
 (.cond (.tmp 17)
 (.seq
 (.reg false [
 ⟨some 19, .move (.tmp 0), none, false, [], false⟩,
 ⟨some 20, .move (.tmp 1), none, false, [], false⟩,
 ⟨some 21, .move (.tmp 2), none, false, [], false⟩,
 ⟨some 22, .call ⟨.value (.func 44), #[.tmp 19, .tmp 20, .tmp 21], #[9, 21, 21]⟩, none, false, [], false⟩,
 ⟨some 18, .move (.tmp 22), none, false, [], false⟩,
 ⟨some 23, .extract (.tmp 18) 0, none, false, [], false⟩,
 ⟨some 24, .extract (.tmp 18) 1, none, false, [], false⟩,
 ⟨some 10, .assign (.tmp 23), none, false, [], false⟩,
 ⟨some 11, .assign (.tmp 24), none, false, [], false⟩])
 (.seq
 (.reg false [
 ⟨some 25, .move (.tmp 10), none, false, [], false⟩,
 ⟨some 26, .convert 21 3 (.tmp 25), none, false, [], false⟩,
 ⟨some 27, .move (.tmp 11), none, false, [], false⟩,
 ⟨some 8, .assign (.tmp 26), none, false, [], false⟩,
 ⟨some 9, .assign (.tmp 27), none, false, [], false⟩])
 .ret))
 .skip))
 (.seq
 (.reg false [
 ⟨some 28, .move (.tmp 0), none, false, [], false⟩,
 ⟨some 29, .move (.tmp 1), none, false, [], false⟩,
 ⟨some 30, .move (.tmp 2), none, false, [], false⟩,
 ⟨some 31, .move (.tmp 3), none, false, [], false⟩,
 ⟨some 32, .call ⟨.value (.func 45), #[.tmp 28, .tmp 29, .tmp 30, .tmp 31], #[9, 21, 21, 3]⟩, none, false, [], false⟩,
 ⟨some 33, .convert 21 3 (.tmp 32), none, false, [], false⟩,
 ⟨some 8, .assign (.tmp 33), none, false, [], false⟩,
 ⟨some 9, .assign (.const (.int .i64 0)), none, false, [], false⟩])
 .ret)))
noncomputable def fi41 : FI := ⟨c41, 34, [.tmp 8, .tmp 9], .plain⟩
noncomputable def c42 : XC :=
 (.seq
 (.reg false [
 ⟨some 8, .assign (.const (.int .i64 0)), none, false, [], false⟩,
 ⟨some 9, .assign (.const (.int .i64 0)), none, false, [], false⟩])
 (.seq
 (.seq
 (.reg false [
 ⟨some 12, .move (.tmp 0), none, false, [], false⟩,
 ⟨some 13, .binOp .eql 9 (.tmp 12) (.const (.string ⟨#[47]⟩)) 9, none, false, [], false⟩,
 ⟨some 14, .move (.tmp 13), none, false, [], false⟩,
 ⟨some 15, .move (.tmp 0), some (some 14, false), false, [], false⟩,
 ⟨some 16, .binOp .eql 9 (.tmp 15) (.const (.string ⟨#[37]⟩)) 9, some (some 14, false), false, [], false⟩,
 ⟨some 17, .pick (.tmp 14) (.const (.bool true)) (.tmp 16), none, false, [], false⟩])
 (.cond (.tmp 17)
 (.seq
 (.reg false [
 ⟨some 19, .move (.tmp 0), none, false, [], false⟩,
 ⟨some 20, .move (.tmp 1), none, false, [], false⟩,
 ⟨some 21, .move (.tmp 2), none, false, [], false⟩,
 ⟨some 22, .call ⟨.value (.func 46), #[.tmp 19, .tmp 20, .tmp 21], #[9, 2, 2]⟩, none, false, [], false⟩,
 ⟨some 18, .move (.tmp 22), none, false, [], false⟩,
 ⟨some 23, .extract (.tmp 18) 0, none, false, [], false⟩,
 ⟨some 24, .extract (.tmp 18) 1, none, false, [], false⟩,
 ⟨some 10, .assign (.tmp 23), none, false, [], false⟩,
 ⟨some 11, .assign (.tmp 24), none, false, [], false⟩])
 (.seq
 (.reg false [
 ⟨some 25, .move (.tmp 10), none, false, [], false⟩,
 ⟨some 26, .move (.tmp 11), none, false, [], false⟩,
 ⟨some 8, .assign (.tmp 25), none, false, [], false⟩,
 ⟨some 9, .assign (.tmp 26), none, false, [], false⟩])
 .ret))
 .skip))
 (.seq
 (.reg false [
 ⟨some 27, .move (.tmp 0), none, false, [], false⟩,
 ⟨some 28, .move (.tmp 1), none, false, [], false⟩,
 ⟨some 29, .move (.tmp 2), none, false, [], false⟩,
 ⟨some 30, .move (.tmp 3), none, false, [], false⟩,
 ⟨some 31, .call ⟨.value (.func 47), #[.tmp 27, .tmp 28, .tmp 29, .tmp 30], #[9, 2, 2, 3]⟩, none, false, [], false⟩,
 ⟨some 8, .assign (.tmp 31), none, false, [], false⟩,
 ⟨some 9, .assign (.const (.int .i64 0)), none, false, [], false⟩])
 .ret)))
noncomputable def fi42 : FI := ⟨c42, 32, [.tmp 8, .tmp 9], .plain⟩
noncomputable def c43 : XC :=
 (.seq
 (.reg false [
 ⟨some 4, .load 34 (.tmp 1), none, false, [], false⟩,
 ⟨some 5, .call ⟨.builtin .len, #[.tmp 4], #[34]⟩, none, false, [], false⟩,
 ⟨some 6, .binOp .sub 3 (.tmp 5) (.const (.int .i64 1)) 3, none, false, [], false⟩,
 ⟨some 3, .assign (.tmp 6), none, false, [], false⟩])
 (.block 0
 (.loop
 (.seq
 (.seq
 (.reg false [
 ⟨some 7, .move (.tmp 3), none, false, [], false⟩,
 ⟨some 8, .binOp .geq 3 (.tmp 7) (.const (.int .i64 0)) 3, none, false, [], false⟩])
 (.cond (.tmp 8)
 .skip
 (.exit 0)))
 (.seq
 (.block 1
 (.seq
 (.reg false [
 ⟨some 11, .move (.tmp 0), none, false, [], false⟩,
 ⟨some 12, .move (.tmp 3), none, false, [], false⟩,
 ⟨some 13, .load 34 (.tmp 1), none, false, [], false⟩,
 ⟨some 14, .move (.tmp 3), none, false, [], false⟩,
 ⟨some 15, .indexAddr 34 (.tmp 13) (.tmp 14), none, false, [], false⟩,
 ⟨some 16, .load 30 (.tmp 15), none, false, [], false⟩,
 ⟨some 17, .call ⟨.value (.tmp 11), #[.tmp 12, .tmp 16], #[3, 30]⟩, none, false, [], false⟩,
 ⟨some 18, .unOp .not 4 (.tmp 17), none, false, [], false⟩])
 (.cond (.tmp 18)
 .ret
 .skip)))
 (.reg false [
 ⟨some 9, .move (.tmp 3), none, false, [], false⟩,
 ⟨some 10, .binOp .sub 3 (.tmp 9) (.const (.int .i64 1)) 3, none, false, [], false⟩,
 ⟨some 3, .assign (.tmp 10), none, false, [], false⟩]))))))
noncomputable def fi43 : FI := ⟨c43, 19, [], .itf (.seq (.reg (.reg false [
 ⟨some 4, .load 34 (.tmp 1), none, false, [], false⟩,
 ⟨some 5, .call ⟨.builtin .len, #[.tmp 4], #[34]⟩, none, false, [], false⟩,
 ⟨some 6, .binOp .sub 3 (.tmp 5) (.const (.int .i64 1)) 3, none, false, [], false⟩,
 ⟨some 3, .assign (.tmp 6), none, false, [], false⟩])) (.block 0 (.loop (.seq (.seq (.reg (.reg false [
 ⟨some 7, .move (.tmp 3), none, false, [], false⟩,
 ⟨some 8, .binOp .geq 3 (.tmp 7) (.const (.int .i64 0)) 3, none, false, [], false⟩])) (.cond (.tmp 8) .skip (.exit 0))) (.seq (.block 1 (.seq (.yreg (.reg false [
 ]) (none) 11 (.reg false [
 ⟨some 12, .move (.tmp 3), none, false, [], false⟩,
 ⟨some 13, .load 34 (.tmp 1), none, false, [], false⟩,
 ⟨some 14, .move (.tmp 3), none, false, [], false⟩,
 ⟨some 15, .indexAddr 34 (.tmp 13) (.tmp 14), none, false, [], false⟩,
 ⟨some 16, .load 30 (.tmp 15), none, false, [], false⟩]) 17 [.tmp 12, .tmp 16] (.reg false [
 ⟨some 18, .unOp .not 4 (.tmp 17), none, false, [], false⟩])) (.cond (.tmp 18) .ret .skip))) (.reg (.reg false [
 ⟨some 9, .move (.tmp 3), none, false, [], false⟩,
 ⟨some 10, .binOp .sub 3 (.tmp 9) (.const (.int .i64 1)) 3, none, false, [], false⟩,
 ⟨some 3, .assign (.tmp 10), none, false, [], false⟩])))))))⟩
noncomputable def c44 : XC :=
 (.seq
 (.reg false [
 ⟨some 6, .assign (.const (.int .i32 0)), none, false, [], false⟩,
 ⟨some 7, .assign (.const (.int .i64 0)), none, false, [], false⟩])
 (.seq
 (.block 0
 (.seq
 (.reg false [
 ⟨some 9, .move (.tmp 2), none, false, [], false⟩,
 ⟨some 10, .binOp .eql 21 (.tmp 9) (.const (.int .i32 0)) 21, none, false, [], false⟩,
 ⟨some 8, .assign (.tmp 10), none, false, [], false⟩])
 (.cond (.tmp 8)
 (.seq
 (.reg false [
 ⟨some 6, .assign (.const (.int .i32 0)), none, false, [], false⟩,
 ⟨some 7, .assign (.const (.int .i64 1)), none, false, [], false⟩])
 .ret)
 (.seq
 (.reg false [
 ⟨some 12, .move (.tmp 0), none, false, [], false⟩,
 ⟨some 13, .binOp .eql 9 (.tmp 12) (.const (.string ⟨#[37]⟩)) 9, none, false, [], false⟩,
 ⟨some 14, .move (.tmp 13), none, false, [], false⟩,
 ⟨some 15, .move (.tmp 2), some (some 14, true), false, [], false⟩,
 ⟨some 16, .binOp .eql 21 (.tmp 15) (.const (.int .i32 (-1))) 21, some (some 14, true), false, [], false⟩,
 ⟨some 17, .pick (.tmp 14) (.tmp 16) (.const (.bool false)), none, false, [], false⟩,
 ⟨some 11, .assign (.tmp 17), none, false, [], false⟩])
 (.cond (.tmp 11)
 (.seq
 (.reg false [
 ⟨some 6, .assign (.const (.int .i32 0)), none, false, [], false⟩,
 ⟨some 7, .assign (.const (.int .i64 0)), none, false, [], false⟩])
 .ret)
 (.seq
 (.reg false [
 ⟨some 19, .move (.tmp 0), none, false, [], false⟩,
 ⟨some 20, .binOp .eql 9 (.tmp 19) (.const (.string ⟨#[37]⟩)) 9, none, false, [], false⟩,
 ⟨some 18, .assign (.tmp 20), none, false, [], false⟩])
 (.cond (.tmp 18)
 (.seq
 (.reg false [
 ⟨some 21, .move (.tmp 1), none, false, [], false⟩,
 ⟨some 22, .move (.tmp 2), none, false, [], false⟩,
 ⟨some 23, .binOp .rem 21 (.tmp 21) (.tmp 22) 21, none, false, [], false⟩,
 ⟨some 6, .assign (.tmp 23), none, false, [], false⟩,
 ⟨some 7, .assign (.const (.int .i64 0)), none, false, [], false⟩])
 .ret)
 (.seq
 (.reg false [
 ⟨some 25, .move (.tmp 2), none, false, [], false⟩,
 ⟨some 26, .binOp .eql 21 (.tmp 25) (.const (.int .i32 (-1))) 21, none, false, [], false⟩,
 ⟨some 27, .move (.tmp 26), none, false, [], false⟩,
 ⟨some 28, .move (.tmp 1), some (some 27, true), false, [], false⟩,
 ⟨some 29, .binOp .neq 21 (.tmp 28) (.const (.int .i32 0)) 21, some (some 27, true), false, [], false⟩,
 ⟨some 30, .pick (.tmp 27) (.tmp 29) (.const (.bool false)), none, false, [], false⟩,
 ⟨some 31, .move (.tmp 30), none, false, [], false⟩,
 ⟨some 32, .move (.tmp 1), some (some 31, true), false, [], false⟩,
 ⟨some 33, .unOp .neg 21 (.tmp 32), some (some 31, true), false, [], false⟩,
 ⟨some 34, .move (.tmp 1), some (some 31, true), false, [], false⟩,
 ⟨some 35, .binOp .eql 21 (.tmp 33) (.tmp 34) 21, some (some 31, true), false, [], false⟩,
 ⟨some 36, .pick (.tmp 31) (.tmp 35) (.const (.bool false)), none, false, [], false⟩,
 ⟨some 24, .assign (.tmp 36), none, false, [], false⟩])
 (.cond (.tmp 24)
 (.seq
 (.reg false [
 ⟨some 6, .assign (.const (.int .i32 0)), none, false, [], false⟩,
 ⟨some 7, .assign (.const (.int .i64 2)), none, false, [], false⟩])
 .ret)
 .skip)))))))))
 (.seq
 (.reg false [
 ⟨some 37, .move (.tmp 1), none, false, [], false⟩,
 ⟨some 38, .move (.tmp 2), none, false, [], false⟩,
 ⟨some 39, .binOp .quo 21 (.tmp 37) (.tmp 38) 21, none, false, [], false⟩,
 ⟨some 6, .assign (.tmp 39), none, false, [], false⟩,
 ⟨some 7, .assign (.const (.int .i64 0)), none, false, [], false⟩])
 .ret)))
noncomputable def fi44 : FI := ⟨c44, 40, [.tmp 6, .tmp 7], .plain⟩
noncomputable def c45 : XC :=
 (.seq
 (.reg false [
 ⟨some 8, .assign (.const (.int .i32 0)), none, false, [], false⟩])
 (.seq
 (.reg false [
 ⟨some 10, .move (.tmp 2), none, false, [], false⟩,
 ⟨some 11, .convert 21 94 (.tmp 10), none, false, [], false⟩,
 ⟨some 12, .move (.tmp 3), none, false, [], false⟩,
 ⟨some 13, .binOp .sub 3 (.tmp 12) (.const (.int .i64 1)) 3, none, false, [], false⟩,
 ⟨some 14, .convert 3 94 (.tmp 13), none, false, [], false⟩,
 ⟨some 15, .binOp .and 94 (.tmp 11) (.tmp 14) 94, none, false, [], false⟩,
 ⟨some 9, .assign (.tmp 15), none, false, [], false⟩])
 (.seq
 (.seq
 (.reg false [
 ⟨some 16, .move (.tmp 0), none, false, [], false⟩])
 (.block 0
 (.seq
 (.reg false [
 ⟨some 18, .binOp .eql 9 (.tmp 16) (.const (.string ⟨#[43]⟩)) 9, none, false, [], false⟩,
 ⟨some 17, .assign (.tmp 18), none, false, [], false⟩])
 (.cond (.tmp 17)
 (.seq
 (.reg false [
 ⟨some 19, .move (.tmp 1), none, false, [], false⟩,
 ⟨some 20, .move (.tmp 2), none, false, [], false⟩,
 ⟨some 21, .binOp .add 21 (.tmp 19) (.tmp 20) 21, none, false, [], false⟩,
 ⟨some 8, .assign (.tmp 21), none, false, [], false⟩])
 .ret)
 (.seq
 (.reg false [
 ⟨some 23, .binOp .eql 9 (.tmp 16) (.const (.string ⟨#[45]⟩)) 9, none, false, [], false⟩,
 ⟨some 22, .assign (.tmp 23), none, false, [], false⟩])
 (.cond (.tmp 22)
 (.seq
 (.reg false [
 ⟨some 24, .move (.tmp 1), none, false, [], false⟩,
 ⟨some 25, .move (.tmp 2), none, false, [], false⟩,
 ⟨some 26, .binOp .sub 21 (.tmp 24) (.tmp 25) 21, none, false, [], false⟩,
 ⟨some 8, .assign (.tmp 26), none, false, [], false⟩])
 .ret)
 (.seq
 (.reg false [
 ⟨some 28, .binOp .eql 9 (.tmp 16) (.const (.string ⟨#[42]⟩)) 9, none, false, [], false⟩,
 ⟨some 27, .assign (.tmp 28), none, false, [], false⟩])
 (.cond (.tmp 27)
 (.seq
 (.reg false [
 ⟨some 29, .move (.tmp 1), none, false, [], false⟩,
 ⟨some 30, .move (.tmp 2), none, false, [], false⟩,
 ⟨some 31, .binOp .mul 21 (.tmp 29) (.tmp 30) 21, none, false, [], false⟩,
 ⟨some 8, .assign (.tmp 31), none, false, [], false⟩])
 .ret)
 (.seq
 (.reg false [
 ⟨some 33, .binOp .eql 9 (.tmp 16) (.const (.string ⟨#[38]⟩)) 9, none, false, [], false⟩,
 ⟨some 32, .assign (.tmp 33), none, false, [], false⟩])
 (.cond (.tmp 32)
 (.seq
 (.reg false [
 ⟨some 34, .move (.tmp 1), none, false, [], false⟩,
 ⟨some 35, .move (.tmp 2), none, false, [], false⟩,
 ⟨some 36, .binOp .and 21 (.tmp 34) (.tmp 35) 21, none, false, [], false⟩,
 ⟨some 8, .assign (.tmp 36), none, false, [], false⟩])
 .ret)
 (.seq
 (.reg false [
 ⟨some 38, .binOp .eql 9 (.tmp 16) (.const (.string ⟨#[124]⟩)) 9, none, false, [], false⟩,
 ⟨some 37, .assign (.tmp 38), none, false, [], false⟩])
 (.cond (.tmp 37)
 (.seq
 (.reg false [
 ⟨some 39, .move (.tmp 1), none, false, [], false⟩,
 ⟨some 40, .move (.tmp 2), none, false, [], false⟩,
 ⟨some 41, .binOp .or 21 (.tmp 39) (.tmp 40) 21, none, false, [], false⟩,
 ⟨some 8, .assign (.tmp 41), none, false, [], false⟩])
 .ret)
 (.seq
 (.reg false [
 ⟨some 43, .binOp .eql 9 (.tmp 16) (.const (.string ⟨#[94]⟩)) 9, none, false, [], false⟩,
 ⟨some 42, .assign (.tmp 43), none, false, [], false⟩])
 (.cond (.tmp 42)
 (.seq
 (.reg false [
 ⟨some 44, .move (.tmp 1), none, false, [], false⟩,
 ⟨some 45, .move (.tmp 2), none, false, [], false⟩,
 ⟨some 46, .binOp .xor 21 (.tmp 44) (.tmp 45) 21, none, false, [], false⟩,
 ⟨some 8, .assign (.tmp 46), none, false, [], false⟩])
 .ret)
 (.seq
 (.reg false [
 ⟨some 48, .binOp .eql 9 (.tmp 16) (.const (.string ⟨#[60, 60]⟩)) 9, none, false, [], false⟩,
 ⟨some 47, .assign (.tmp 48), none, false, [], false⟩])
 (.cond (.tmp 47)
 (.seq
 (.reg false [
 ⟨some 49, .move (.tmp 1), none, false, [], false⟩,
 ⟨some 50, .move (.tmp 9), none, false, [], false⟩,
 ⟨some 51, .binOp .shl 21 (.tmp 49) (.tmp 50) 94, none, false, [], false⟩,
 ⟨some 8, .assign (.tmp 51), none, false, [], false⟩])
 .ret)
 (.seq
 (.reg false [
 ⟨some 53, .binOp .eql 9 (.tmp 16) (.const (.string ⟨#[62, 62]⟩)) 9, none, false, [], false⟩,
 ⟨some 52, .assign (.tmp 53), none, false, [], false⟩])
 (.cond (.tmp 52)
 (.seq
 (.reg false [
 ⟨some 54, .move (.tmp 1), none, false, [], false⟩,
 ⟨some 55, .move (.tmp 9), none, false, [], false⟩,
 ⟨some 56, .binOp .shr 21 (.tmp 54) (.tmp 55) 94, none, false, [], false⟩,
 ⟨some 8, .assign (.tmp 56), none, false, [], false⟩])
 .ret)
 (.seq
 (.reg false [
 ⟨some 58, .binOp .eql 9 (.tmp 16) (.const (.string ⟨#[61, 61]⟩)) 9, none, false, [], false⟩,
 ⟨some 57, .assign (.tmp 58), none, false, [], false⟩])
 (.cond (.tmp 57)
 (.seq
 (.reg false [
 ⟨some 59, .move (.tmp 1), none, false, [], false⟩,
 ⟨some 60, .move (.tmp 2), none, false, [], false⟩,
 ⟨some 61, .binOp .eql 21 (.tmp 59) (.tmp 60) 21, none, false, [], false⟩,
 ⟨some 62, .call ⟨.value (.func 48), #[.tmp 61], #[4]⟩, none, false, [], false⟩,
 ⟨some 8, .assign (.tmp 62), none, false, [], false⟩])
 .ret)
 (.seq
 (.reg false [
 ⟨some 64, .binOp .eql 9 (.tmp 16) (.const (.string ⟨#[33, 61]⟩)) 9, none, false, [], false⟩,
 ⟨some 63, .assign (.tmp 64), none, false, [], false⟩])
 (.cond (.tmp 63)
 (.seq
 (.reg false [
 ⟨some 65, .move (.tmp 1), none, false, [], false⟩,
 ⟨some 66, .move (.tmp 2), none, false, [], false⟩,
 ⟨some 67, .binOp .neq 21 (.tmp 65) (.tmp 66) 21, none, false, [], false⟩,
 ⟨some 68, .call ⟨.value (.func 48), #[.tmp 67], #[4]⟩, none, false, [], false⟩,
 ⟨some 8, .assign (.tmp 68), none, false, [], false⟩])
 .ret)
 (.seq
 (.reg false [
 ⟨some 70, .binOp .eql 9 (.tmp 16) (.const (.string ⟨#[60]⟩)) 9, none, false, [], false⟩,
 ⟨some 69, .assign (.tmp 70), none, false, [], false⟩])
 (.cond (.tmp 69)
 (.seq
 (.reg false [
 ⟨some 71, .move (.tmp 1), none, false, [], false⟩,
 ⟨some 72, .move (.tmp 2), none, false, [], false⟩,
 ⟨some 73, .binOp .lss 21 (.tmp 71) (.tmp 72) 21, none, false, [], false⟩,
 ⟨some 74, .call ⟨.value (.func 48), #[.tmp 73], #[4]⟩, none, false, [], false⟩,
 ⟨some 8, .assign (.tmp 74), none, false, [], false⟩])
 .ret)
 (.seq
 (.reg false [
 ⟨some 76, .binOp .eql 9 (.tmp 16) (.const (.string ⟨#[60, 61]⟩)) 9, none, false, [], false⟩,
 ⟨some 75, .assign (.tmp 76), none, false, [], false⟩])
 (.cond (.tmp 75)
 (.seq
 (.reg false [
 ⟨some 77, .move (.tmp 1), none, false, [], false⟩,
 ⟨some 78, .move (.tmp 2), none, false, [], false⟩,
 ⟨some 79, .binOp .leq 21 (.tmp 77) (.tmp 78) 21, none, false, [], false⟩,
 ⟨some 80, .call ⟨.value (.func 48), #[.tmp 79], #[4]⟩, none, false, [], false⟩,
 ⟨some 8, .assign (.tmp 80), none, false, [], false⟩])
 .ret)
 (.seq
 (.reg false [
 ⟨some 82, .binOp .eql 9 (.tmp 16) (.const (.string ⟨#[62]⟩)) 9, none, false, [], false⟩,
 ⟨some 81, .assign (.tmp 82), none, false, [], false⟩])
 (.cond (.tmp 81)
 (.seq
 (.reg false [
 ⟨some 83, .move (.tmp 1), none, false, [], false⟩,
 ⟨some 84, .move (.tmp 2), none, false, [], false⟩,
 ⟨some 85, .binOp .gtr 21 (.tmp 83) (.tmp 84) 21, none, false, [], false⟩,
 ⟨some 86, .call ⟨.value (.func 48), #[.tmp 85], #[4]⟩, none, false, [], false⟩,
 ⟨some 8, .assign (.tmp 86), none, false, [], false⟩])
 .ret)
 (.seq
 (.reg false [
 ⟨some 88, .binOp .eql 9 (.tmp 16) (.const (.string ⟨#[62, 61]⟩)) 9, none, false, [], false⟩,
 ⟨some 87, .assign (.tmp 88), none, false, [], false⟩])
 (.cond (.tmp 87)
 (.seq
 (.reg false [
 ⟨some 89, .move (.tmp 1), none, false, [], false⟩,
 ⟨some 90, .move (.tmp 2), none, false, [], false⟩,
 ⟨some 91, .binOp .geq 21 (.tmp 89) (.tmp 90) 21, none, false, [], false⟩,
 ⟨some 92, .call ⟨.value (.func 48), #[.tmp 91], #[4]⟩, none, false, [], false⟩,
 ⟨some 8, .assign (.tmp 92), none, false, [], false⟩])
 .ret)
 .skip))))))))))))))))))))))))))))))
 (.seq
 (.reg false [
 ⟨some 8, .assign (.const (.int .i32 0)), none, false, [], false⟩])
 .ret))))
noncomputable def fi45 : FI := ⟨c45, 93, [.tmp 8], .plain⟩
noncomputable def c46 : XC :=
 (.seq
 (.reg false [
 ⟨some 6, .assign (.const (.int .i64 0)), none, false, [], false⟩,
 ⟨some 7, .assign (.const (.int .i64 0)), none, false, [], false⟩])
 (.seq
 (.block 0
 (.seq
 (.reg false [
 ⟨some 9, .move (.tmp 2), none, false, [], false⟩,
 ⟨some 10, .binOp .eql 2 (.tmp 9) (.const (.int .i64 0)) 2, none, false, [], false⟩,
 ⟨some 8, .assign (.tmp 10), none, false, [], false⟩])
 (.cond (.tmp 8)
 (.seq
 (.reg false [
 ⟨some 6, .assign (.const (.int .i64 0)), none, false, [], false⟩,
 ⟨some 7, .assign (.const (.int .i64 1)), none, false, [], false⟩])
 .ret)
 (.seq
 (.reg false [
 ⟨some 12, .move (.tmp 0), none, false, [], false⟩,
 ⟨some 13, .binOp .eql 9 (.tmp 12) (.const (.string ⟨#[37]⟩)) 9, none, false, [], false⟩,
 ⟨some 14, .move (.tmp 13), none, false, [], false⟩,
 ⟨some 15, .move (.tmp 2), some (some 14, true), false, [], false⟩,
 ⟨some 16, .binOp .eql 2 (.tmp 15) (.const (.int .i64 (-1))) 2, some (some 14, true), false, [], false⟩,
 ⟨some 17, .pick (.tmp 14) (.tmp 16) (.const (.bool false)), none, false, [], false⟩,
 ⟨some 11, .assign (.tmp 17), none, false, [], false⟩])
 (.cond (.tmp 11)
 (.seq
 (.reg false [
 ⟨some 6, .assign (.const (.int .i64 0)), none, false, [], false⟩,
 ⟨some 7, .assign (.const (.int .i64 0)), none, false, [], false⟩])
 .ret)
 (.seq
 (.reg false [
 ⟨some 19, .move (.tmp 0), none, false, [], false⟩,
 ⟨some 20, .binOp .eql 9 (.tmp 19) (.const (.string ⟨#[37]⟩)) 9, none, false, [], false⟩,
 ⟨some 18, .assign (.tmp 20), none, false, [], false⟩])
 (.cond (.tmp 18)
 (.seq
 (.reg false [
 ⟨some 21, .move (.tmp 1), none, false, [], false⟩,
 ⟨some 22, .move (.tmp 2), none, false, [], false⟩,
 ⟨some 23, .binOp .rem 2 (.tmp 21) (.tmp 22) 2, none, false, [], false⟩,
 ⟨some 6, .assign (.tmp 23), none, false, [], false⟩,
 ⟨some 7, .assign (.const (.int .i64 0)), none, false, [], false⟩])
 .ret)
 (.seq
 (.reg false [
 ⟨some 25, .move (.tmp 2), none, false, [], false⟩,
 ⟨some 26, .binOp .eql 2 (.tmp 25) (.const (.int .i64 (-1))) 2, none, false, [], false⟩,
 ⟨some 27, .move (.tmp 26), none, false, [], false⟩,
 ⟨some 28, .move (.tmp 1), some (some 27, true), false, [], false⟩,
 ⟨some 29, .binOp .neq 2 (.tmp 28) (.const (.int .i64 0)) 2, some (some 27, true), false, [], false⟩,
 ⟨some 30, .pick (.tmp 27) (.tmp 29) (.const (.bool false)), none, false, [], false⟩,
 ⟨some 31, .move (.tmp 30), none, false, [], false⟩,
 ⟨some 32, .move (.tmp 1), some (some 31, true), false, [], false⟩,
 ⟨some 33, .unOp .neg 2 (.tmp 32), some (some 31, true), false, [], false⟩,
 ⟨some 34, .move (.tmp 1), some (some 31, true), false, [], false⟩,
 ⟨some 35, .binOp .eql 2 (.tmp 33) (.tmp 34) 2, some (some 31, true), false, [], false⟩,
 ⟨some 36, .pick (.tmp 31) (.tmp 35) (.const (.bool false)), none, false, [], false⟩,
 ⟨some 24, .assign (.tmp 36), none, false, [], false⟩])
 (.cond (.tmp 24)
 (.seq
 (.reg false [
 ⟨some 6, .assign (.const (.int .i64 0)), none, false, [], false⟩,
 ⟨some 7, .assign (.const (.int .i64 2)), none, false, [], false⟩])
 .ret)
 .skip)))))))))
 (.seq
 (.reg false [
 ⟨some 37, .move (.tmp 1), none, false, [], false⟩,
 ⟨some 38, .move (.tmp 2), none, false, [], false⟩,
 ⟨some 39, .binOp .quo 2 (.tmp 37) (.tmp 38) 2, none, false, [], false⟩,
 ⟨some 6, .assign (.tmp 39), none, false, [], false⟩,
 ⟨some 7, .assign (.const (.int .i64 0)), none, false, [], false⟩])
 .ret)))
noncomputable def fi46 : FI := ⟨c46, 40, [.tmp 6, .tmp 7], .plain⟩
noncomputable def c47 : XC :=
 (.seq
 (.reg false [
 ⟨some 8, .assign (.const (.int .i64 0)), none, false, [], false⟩])
 (.seq
 (.reg false [
 ⟨some 10, .move (.tmp 2), none, false, [], false⟩,
 ⟨some 11, .convert 2 94 (.tmp 10), none, false, [], false⟩,
 ⟨some 12, .move (.tmp 3), none, false, [], false⟩,
 ⟨some 13, .binOp .sub 3 (.tmp 12) (.const (.int .i64 1)) 3, none, false, [], false⟩,
 ⟨some 14, .convert 3 94 (.tmp 13), none, false, [], false⟩,
 ⟨some 15, .binOp .and 94 (.tmp 11) (.tmp 14) 94, none, false, [], false⟩,
 ⟨some 9, .assign (.tmp 15), none, false, [], false⟩])
 (.seq
 (.seq
 (.reg false [
 ⟨some 16, .move (.tmp 0), none, false, [], false⟩])
 (.block 0
 (.seq
 (.reg false [
 ⟨some 18, .binOp .eql 9 (.tmp 16) (.const (.string ⟨#[43]⟩)) 9, none, false, [], false⟩,
 ⟨some 17, .assign (.tmp 18), none, false, [], false⟩])
 (.cond (.tmp 17)
 (.seq
 (.reg false [
 ⟨some 19, .move (.tmp 1), none, false, [], false⟩,
 ⟨some 20, .move (.tmp 2), none, false, [], false⟩,
 ⟨some 21, .binOp .add 2 (.tmp 19) (.tmp 20) 2, none, false, [], false⟩,
 ⟨some 8, .assign (.tmp 21), none, false, [], false⟩])
 .ret)
 (.seq
 (.reg false [
 ⟨some 23, .binOp .eql 9 (.tmp 16) (.const (.string ⟨#[45]⟩)) 9, none, false, [], false⟩,
 ⟨some 22, .assign (.tmp 23), none, false, [], false⟩])
 (.cond (.tmp 22)
 (.seq
 (.reg false [
 ⟨some 24, .move (.tmp 1), none, false, [], false⟩,
 ⟨some 25, .move (.tmp 2), none, false, [], false⟩,
 ⟨some 26, .binOp .sub 2 (.tmp 24) (.tmp 25) 2, none, false, [], false⟩,
 ⟨some 8, .assign (.tmp 26), none, false, [], false⟩])
 .ret)
 (.seq
 (.reg false [
 ⟨some 28, .binOp .eql 9 (.tmp 16) (.const (.string ⟨#[42]⟩)) 9, none, false, [], false⟩,
 ⟨some 27, .assign (.tmp 28), none, false, [], false⟩])
 (.cond (.tmp 27)
 (.seq
 (.reg false [
 ⟨some 29, .move (.tmp 1), none, false, [], false⟩,
 ⟨some 30, .move (.tmp 2), none, false, [], false⟩,
 ⟨some 31, .binOp .mul 2 (.tmp 29) (.tmp 30) 2, none, false, [], false⟩,
 ⟨some 8, .assign (.tmp 31), none, false, [], false⟩])
 .ret)
 (.seq
 (.reg false [
 ⟨some 33, .binOp .eql 9 (.tmp 16) (.const (.string ⟨#[38]⟩)) 9, none, false, [], false⟩,
 ⟨some 32, .assign (.tmp 33), none, false, [], false⟩])
 (.cond (.tmp 32)
 (.seq
 (.reg false [
 ⟨some 34, .move (.tmp 1), none, false, [], false⟩,
 ⟨some 35, .move (.tmp 2), none, false, [], false⟩,
 ⟨some 36, .binOp .and 2 (.tmp 34) (.tmp 35) 2, none, false, [], false⟩,
 ⟨some 8, .assign (.tmp 36), none, false, [], false⟩])
 .ret)
 (.seq
 (.reg false [
 ⟨some 38, .binOp .eql 9 (.tmp 16) (.const (.string ⟨#[124]⟩)) 9, none, false, [], false⟩,
 ⟨some 37, .assign (.tmp 38), none, false, [], false⟩])
 (.cond (.tmp 37)
 (.seq
 (.reg false [
 ⟨some 39, .move (.tmp 1), none, false, [], false⟩,
 ⟨some 40, .move (.tmp 2), none, false, [], false⟩,
 ⟨some 41, .binOp .or 2 (.tmp 39) (.tmp 40) 2, none, false, [], false⟩,
 ⟨some 8, .assign (.tmp 41), none, false, [], false⟩])
 .ret)
 (.seq
 (.reg false [
 ⟨some 43, .binOp .eql 9 (.tmp 16) (.const (.string ⟨#[94]⟩)) 9, none, false, [], false⟩,
 ⟨some 42, .assign (.tmp 43), none, false, [], false⟩])
 (.cond (.tmp 42)
 (.seq
 (.reg false [
 ⟨some 44, .move (.tmp 1), none, false, [], false⟩,
 ⟨some 45, .move (.tmp 2), none, false, [], false⟩,
 ⟨some 46, .binOp .xor 2 (.tmp 44) (.tmp 45) 2, none, false, [], false⟩,
 ⟨some 8, .assign (.tmp 46), none, false, [], false⟩])
 .ret)
 (.seq
 (.reg false [
 ⟨some 48, .binOp .eql 9 (.tmp 16) (.const (.string ⟨#[60, 60]⟩)) 9, none, false, [], false⟩,
 ⟨some 47, .assign (.tmp 48), none, false, [], false⟩])
 (.cond (.tmp 47)
 (.seq
 (.reg false [
 ⟨some 49, .move (.tmp 1), none, false, [], false⟩,
 ⟨some 50, .move (.tmp 9), none, false, [], false⟩,
 ⟨some 51, .binOp .shl 2 (.tmp 49) (.tmp 50) 94, none, false, [], false⟩,
 ⟨some 8, .assign (.tmp 51), none, false, [], false⟩])
 .ret)
 (.seq
 (.reg false [
 ⟨some 53, .binOp .eql 9 (.tmp 16) (.const (.string ⟨#[62, 62]⟩)) 9, none, false, [], false⟩,
 ⟨some 52, .assign (.tmp 53), none, false, [], false⟩])
 (.cond (.tmp 52)
 (.seq
 (.reg false [
 ⟨some 54, .move (.tmp 1), none, false, [], false⟩,
 ⟨some 55, .move (.tmp 9), none, false, [], false⟩,
 ⟨some 56, .binOp .shr 2 (.tmp 54) (.tmp 55) 94, none, false, [], false⟩,
 ⟨some 8, .assign (.tmp 56), none, false, [], false⟩])
 .ret)
 (.seq
 (.reg false [
 ⟨some 58, .binOp .eql 9 (.tmp 16) (.const (.string ⟨#[61, 61]⟩)) 9, none, false, [], false⟩,
 ⟨some 57, .assign (.tmp 58), none, false, [], false⟩])
 (.cond (.tmp 57)
 (.seq
 (.reg false [
 ⟨some 59, .move (.tmp 1), none, false, [], false⟩,
 ⟨some 60, .move (.tmp 2), none, false, [], false⟩,
 ⟨some 61, .binOp .eql 2 (.tmp 59) (.tmp 60) 2, none, false, [], false⟩,
 ⟨some 62, .call ⟨.value (.func 49), #[.tmp 61], #[4]⟩, none, false, [], false⟩,
 ⟨some 8, .assign (.tmp 62), none, false, [], false⟩])
 .ret)
 (.seq
 (.reg false [
 ⟨some 64, .binOp .eql 9 (.tmp 16) (.const (.string ⟨#[33, 61]⟩)) 9, none, false, [], false⟩,
 ⟨some 63, .assign (.tmp 64), none, false, [], false⟩])
 (.cond (.tmp 63)
 (.seq
 (.reg false [
 ⟨some 65, .move (.tmp 1), none, false, [], false⟩,
 ⟨some 66, .move (.tmp 2), none, false, [], false⟩,
 ⟨some 67, .binOp .neq 2 (.tmp 65) (.tmp 66) 2, none, false, [], false⟩,
 ⟨some 68, .call ⟨.value (.func 49), #[.tmp 67], #[4]⟩, none, false, [], false⟩,
 ⟨some 8, .assign (.tmp 68), none, false, [], false⟩])
 .ret)
 (.seq
 (.reg false [
 ⟨some 70, .binOp .eql 9 (.tmp 16) (.const (.string ⟨#[60]⟩)) 9, none, false, [], false⟩,
 ⟨some 69, .assign (.tmp 70), none, false, [], false⟩])
 (.cond (.tmp 69)
 (.seq
 (.reg false [
 ⟨some 71, .move (.tmp 1), none, false, [], false⟩,
 ⟨some 72, .move (.tmp 2), none, false, [], false⟩,
 ⟨some 73, .binOp .lss 2 (.tmp 71) (.tmp 72) 2, none, false, [], false⟩,
 ⟨some 74, .call ⟨.value (.func 49), #[.tmp 73], #[4]⟩, none, false, [], false⟩,
 ⟨some 8, .assign (.tmp 74), none, false, [], false⟩])
 .ret)
 (.seq
 (.reg false [
 ⟨some 76, .binOp .eql 9 (.tmp 16) (.const (.string ⟨#[60, 61]⟩)) 9, none, false, [], false⟩,
 ⟨some 75, .assign (.tmp 76), none, false, [], false⟩])
 (.cond (.tmp 75)
 (.seq
 (.reg false [
 ⟨some 77, .move (.tmp 1), none, false, [], false⟩,
 ⟨some 78, .move (.tmp 2), none, false, [], false⟩,
 ⟨some 79, .binOp .leq 2 (.tmp 77) (.tmp 78) 2, none, false, [], false⟩,
 ⟨some 80, .call ⟨.value (.func 49), #[.tmp 79], #[4]⟩, none, false, [], false⟩,
 ⟨some 8, .assign (.tmp 80), none, false, [], false⟩])
 .ret)
 (.seq
 (.reg false [
 ⟨some 82, .binOp .eql 9 (.tmp 16) (.const (.string ⟨#[62]⟩)) 9, none, false, [], false⟩,
 ⟨some 81, .assign (.tmp 82), none, false, [], false⟩])
 (.cond (.tmp 81)
 (.seq
 (.reg false [
 ⟨some 83, .move (.tmp 1), none, false, [], false⟩,
 ⟨some 84, .move (.tmp 2), none, false, [], false⟩,
 ⟨some 85, .binOp .gtr 2 (.tmp 83) (.tmp 84) 2, none, false, [], false⟩,
 ⟨some 86, .call ⟨.value (.func 49), #[.tmp 85], #[4]⟩, none, false, [], false⟩,
 ⟨some 8, .assign (.tmp 86), none, false, [], false⟩])
 .ret)
 (.seq
 (.reg false [
 ⟨some 88, .binOp .eql 9 (.tmp 16) (.const (.string ⟨#[62, 61]⟩)) 9, none, false, [], false⟩,
 ⟨some 87, .assign (.tmp 88), none, false, [], false⟩])
 (.cond (.tmp 87)
 (.seq
 (.reg false [
 ⟨some 89, .move (.tmp 1), none, false, [], false⟩,
 ⟨some 90, .move (.tmp 2), none, false, [], false⟩,
 ⟨some 91, .binOp .geq 2 (.tmp 89) (.tmp 90) 2, none, false, [], false⟩,
 ⟨some 92, .call ⟨.value (.func 49), #[.tmp 91], #[4]⟩, none, false, [], false⟩,
 ⟨some 8, .assign (.tmp 92), none, false, [], false⟩])
 .ret)
 .skip))))))))))))))))))))))))))))))
 (.seq
 (.reg false [
 ⟨some 8, .assign (.const (.int .i64 0)), none, false, [], false⟩])
 .ret))))
noncomputable def fi47 : FI := ⟨c47, 93, [.tmp 8], .plain⟩
noncomputable def c48 : XC :=
 (.seq
 (.reg false [
 ⟨some 2, .assign (.const (.int .i32 0)), none, false, [], false⟩])
 (.seq
 (.seq
 (.reg false [
 ⟨some 3, .move (.tmp 0), none, false, [], false⟩])
 (.cond (.tmp 3)
 (.seq
 (.reg false [
 ⟨some 2, .assign (.const (.int .i32 1)), none, false, [], false⟩])
 .ret)
 .skip))
 (.seq
 (.reg false [
 ⟨some 2, .assign (.const (.int .i32 0)), none, false, [], false⟩])
 .ret)))
noncomputable def fi48 : FI := ⟨c48, 4, [.tmp 2], .plain⟩
noncomputable def c49 : XC :=
 (.seq
 (.reg false [
 ⟨some 2, .assign (.const (.int .i64 0)), none, false, [], false⟩])
 (.seq
 (.seq
 (.reg false [
 ⟨some 3, .move (.tmp 0), none, false, [], false⟩])
 (.cond (.tmp 3)
 (.seq
 (.reg false [
 ⟨some 2, .assign (.const (.int .i64 1)), none, false, [], false⟩])
 .ret)
 .skip))
 (.seq
 (.reg false [
 ⟨some 2, .assign (.const (.int .i64 0)), none, false, [], false⟩])
 .ret)))
noncomputable def fi49 : FI := ⟨c49, 4, [.tmp 2], .plain⟩
end Go.Proofs.AmEnv
