/- The code of this program's functions, as the abstract machine goes over it. Conditions: none. -/
import Derived.Test.YtbgkdlhkmhpdcaaGreatAmSix
set_option maxRecDepth 100000
namespace Go.Proofs.AmEnv
open Go Go.AM
noncomputable def c4 : XC :=
 (.seq (.reg false [⟨some 0, .assign (.const (.bool false)), none, false, [], false⟩])
 (.seq (.reg false [⟨some 1, .assign (.const (.slice none 0 0)), none, false, [], false⟩])
 (.seq (.seq
 (.reg false [⟨some 2, .assign (.const (.int .i64 0)), none, false, [], false⟩])
 (.block 0
 (.loop (.seq (.seq
 (.reg false [⟨some 14, .move (.tmp 2), none, false, [], false⟩,
 ⟨some 15, .binOp .lss 3 (.tmp 14) (.const (.int .i64 11)) 3, none, false, [], false⟩])
 (.cond (.tmp 15)
 .skip
 (.exit 0)))
 (.seq (.block 1
 (.reg false [⟨some 18, .move (.tmp 1), none, false, [], false⟩,
 ⟨some 19, .move (.tmp 2), none, false, [], false⟩,
 ⟨some 20, .binOp .add 3 (.tmp 19) (.const (.int .i64 1)) 3, none, false, [], false⟩,
 ⟨some 21, .buildSlice 22 1 #[(0, .tmp 20)], none, false, [], false⟩,
 ⟨some 22, .call ⟨.value (.func 18), #[.const (.string ⟨#[102]⟩), .tmp 21], #[9, 22]⟩, none, false, [], false⟩,
 ⟨some 23, .buildSlice 33 1 #[(0, .tmp 22)], none, false, [], false⟩,
 ⟨some 24, .call ⟨.builtin .append, #[.tmp 18, .tmp 23], #[33, 33]⟩, none, false, [], false⟩,
 ⟨some 1, .assign (.tmp 24), none, false, [], false⟩]))
 (.reg false [⟨some 16, .move (.tmp 2), none, false, [], false⟩,
 ⟨some 17, .binOp .add 3 (.tmp 16) (.const (.int .i64 1)) 3, none, false, [], false⟩,
 ⟨some 2, .assign (.tmp 17), none, false, [], false⟩]))))))
 (.seq (.reg false [⟨some 25, .move (.tmp 1), none, false, [], false⟩,
 ⟨some 26, .buildSlice 22 1 #[(0, .const (.int .i64 0))], none, false, [], false⟩,
 ⟨some 27, .call ⟨.value (.func 18), #[.const (.string ⟨#[109, 97, 105, 110]⟩), .tmp 26], #[9, 22]⟩, none, false, [], false⟩,
 ⟨some 28, .buildSlice 33 1 #[(0, .tmp 27)], none, false, [], false⟩,
 ⟨some 29, .call ⟨.builtin .append, #[.tmp 25, .tmp 28], #[33, 33]⟩, none, false, [], false⟩,
 ⟨some 1, .assign (.tmp 29), none, false, [], false⟩])
 (.seq (.reg false [⟨some 31, .call ⟨.value (.func 18), #[.const (.string ⟨#[109, 97, 105, 110]⟩), .const (.slice none 0 0)], #[9, 22]⟩, none, false, [], false⟩,
 ⟨some 32, .buildSlice 33 1 #[(0, .tmp 31)], none, false, [], false⟩,
 ⟨some 33, .call ⟨.value (.func 20), #[.tmp 32], #[33]⟩, none, false, [], false⟩,
 ⟨some 34, .call ⟨.value (.func 19), #[.tmp 33], #[36]⟩, none, false, [], false⟩,
 ⟨some 30, .move (.tmp 34), none, false, [], false⟩,
 ⟨some 35, .extract (.tmp 30) 0, none, false, [], false⟩,
 ⟨some 36, .extract (.tmp 30) 1, none, false, [], false⟩,
 ⟨some 3, .assign (.tmp 35), none, false, [], false⟩,
 ⟨some 4, .assign (.tmp 36), none, false, [], false⟩])
 (.seq (.reg false [⟨some 38, .buildSlice 22 1 #[(0, .const (.int .i64 0))], none, false, [], false⟩,
 ⟨some 39, .call ⟨.value (.func 18), #[.const (.string ⟨#[109, 97, 105, 110]⟩), .tmp 38], #[9, 22]⟩, none, false, [], false⟩,
 ⟨some 40, .buildSlice 33 1 #[(0, .tmp 39)], none, false, [], false⟩,
 ⟨some 41, .call ⟨.value (.func 20), #[.tmp 40], #[33]⟩, none, false, [], false⟩,
 ⟨some 42, .call ⟨.value (.func 19), #[.tmp 41], #[36]⟩, none, false, [], false⟩,
 ⟨some 37, .move (.tmp 42), none, false, [], false⟩,
 ⟨some 43, .extract (.tmp 37) 0, none, false, [], false⟩,
 ⟨some 44, .extract (.tmp 37) 1, none, false, [], false⟩,
 ⟨some 5, .assign (.tmp 43), none, false, [], false⟩,
 ⟨some 6, .assign (.tmp 44), none, false, [], false⟩])
 (.seq (.reg false [⟨some 46, .buildSlice 22 2 #[(0, .const (.int .i64 1)), (1, .const (.int .i64 1))], none, false, [], false⟩,
 ⟨some 47, .call ⟨.value (.func 18), #[.const (.string ⟨#[109, 97, 105, 110]⟩), .tmp 46], #[9, 22]⟩, none, false, [], false⟩,
 ⟨some 48, .call ⟨.value (.func 18), #[.const (.string ⟨#[109, 97, 105, 110]⟩), .const (.slice none 0 0)], #[9, 22]⟩, none, false, [], false⟩,
 ⟨some 49, .buildSlice 33 2 #[(0, .tmp 47), (1, .tmp 48)], none, false, [], false⟩,
 ⟨some 50, .call ⟨.value (.func 20), #[.tmp 49], #[33]⟩, none, false, [], false⟩,
 ⟨some 51, .call ⟨.value (.func 19), #[.tmp 50], #[36]⟩, none, false, [], false⟩,
 ⟨some 45, .move (.tmp 51), none, false, [], false⟩,
 ⟨some 52, .extract (.tmp 45) 0, none, false, [], false⟩,
 ⟨some 53, .extract (.tmp 45) 1, none, false, [], false⟩,
 ⟨some 7, .assign (.tmp 52), none, false, [], false⟩,
 ⟨some 8, .assign (.tmp 53), none, false, [], false⟩])
 (.seq (.reg false [⟨some 54, .buildSlice 22 1 #[(0, .const (.int .i64 1))], none, false, [], false⟩,
 ⟨some 55, .call ⟨.value (.func 18), #[.const (.string ⟨#[102]⟩), .tmp 54], #[9, 22]⟩, none, false, [], false⟩,
 ⟨some 9, .alloc 25, none, false, [], false⟩,
 ⟨none, .store 25 (.tmp 9) (.tmp 55), none, false, [], false⟩])
 (.seq (.reg false [⟨some 56, .fieldAddr 25 (.tmp 9) 4, none, false, [], false⟩,
 ⟨some 57, .load 23 (.tmp 56), none, false, [], false⟩,
 ⟨some 58, .build 46 #[(0, .const (.int .i64 9)), (5, .const (.int .i64 2))], none, false, [], false⟩,
 ⟨some 59, .buildSlice 47 1 #[(0, .tmp 58)], none, false, [], false⟩,
 ⟨some 60, .build 29 #[(0, .const (.int .i64 3))], none, false, [], false⟩,
 ⟨some 61, .build 49 #[(0, .tmp 59), (1, .tmp 60)], none, false, [], false⟩,
 ⟨some 62, .buildSlice 23 1 #[(0, .tmp 61)], none, false, [], false⟩,
 ⟨some 63, .call ⟨.builtin .append, #[.tmp 57, .tmp 62], #[23, 23]⟩, none, false, [], false⟩,
 ⟨some 64, .fieldAddr 25 (.tmp 9) 4, none, false, [], false⟩,
 ⟨none, .store 23 (.tmp 64) (.tmp 63), none, false, [], false⟩])
 (.seq (.reg true [⟨some 66, .buildSlice 22 1 #[(0, .const (.int .i64 1))], none, false, [], false⟩,
 ⟨some 67, .call ⟨.value (.func 18), #[.const (.string ⟨#[109, 97, 105, 110]⟩), .tmp 66], #[9, 22]⟩, none, true, [true, false, true, true, true, true, true, true, true, true], false⟩,
 ⟨some 69, .call ⟨.value (.func 18), #[.const (.string ⟨#[103]⟩), .const (.slice none 0 0)], #[9, 22]⟩, none, true, [false, true, true, true, true, true, true, true, true], false⟩,
 ⟨some 68, .load 25 (.tmp 9), none, false, [], true⟩,
 ⟨some 70, .buildSlice 33 3 #[(0, .tmp 67), (1, .tmp 68), (2, .tmp 69)], none, false, [], false⟩,
 ⟨some 71, .call ⟨.value (.func 20), #[.tmp 70], #[33]⟩, none, false, [true, true, true, true, true, true], false⟩,
 ⟨some 72, .call ⟨.value (.func 19), #[.tmp 71], #[36]⟩, none, false, [true, true, true, true, true], false⟩,
 ⟨some 65, .move (.tmp 72), none, false, [], false⟩,
 ⟨some 73, .extract (.tmp 65) 0, none, false, [], false⟩,
 ⟨some 74, .extract (.tmp 65) 1, none, false, [], false⟩,
 ⟨some 10, .assign (.tmp 73), none, false, [], false⟩,
 ⟨some 11, .assign (.tmp 74), none, false, [], false⟩])
 (.seq (.reg false [⟨some 75, .move (.tmp 1), none, false, [], false⟩,
 ⟨some 76, .call ⟨.value (.func 20), #[.tmp 75], #[33]⟩, none, false, [], false⟩,
 ⟨some 77, .buildSlice 22 1 #[(0, .const (.int .i64 0))], none, false, [], false⟩,
 ⟨some 78, .call ⟨.value (.func 18), #[.const (.string ⟨#[109, 97, 105, 110]⟩), .tmp 77], #[9, 22]⟩, none, false, [], false⟩,
 ⟨some 79, .buildSlice 33 1 #[(0, .tmp 78)], none, false, [], false⟩,
 ⟨some 80, .call ⟨.value (.func 20), #[.tmp 79], #[33]⟩, none, false, [], false⟩,
 ⟨some 81, .buildSlice 22 1 #[(0, .const (.int .i64 0))], none, false, [], false⟩,
 ⟨some 82, .call ⟨.value (.func 18), #[.const (.string ⟨#[120]⟩), .tmp 81], #[9, 22]⟩, none, false, [], false⟩,
 ⟨some 83, .call ⟨.value (.func 18), #[.const (.string ⟨#[109, 97, 105, 110]⟩), .const (.slice none 0 0)], #[9, 22]⟩, none, false, [], false⟩,
 ⟨some 84, .buildSlice 22 2 #[(0, .const (.int .i64 0)), (1, .const (.int .i64 1))], none, false, [], false⟩,
 ⟨some 85, .call ⟨.value (.func 18), #[.const (.string ⟨#[121]⟩), .tmp 84], #[9, 22]⟩, none, false, [], false⟩,
 ⟨some 86, .buildSlice 33 3 #[(0, .tmp 82), (1, .tmp 83), (2, .tmp 85)], none, false, [], false⟩,
 ⟨some 87, .call ⟨.value (.func 20), #[.tmp 86], #[33]⟩, none, false, [], false⟩,
 ⟨some 88, .buildSlice 22 2 #[(0, .const (.int .i64 1)), (1, .const (.int .i64 1))], none, false, [], false⟩,
 ⟨some 89, .call ⟨.value (.func 18), #[.const (.string ⟨#[109, 97, 105, 110]⟩), .tmp 88], #[9, 22]⟩, none, false, [], false⟩,
 ⟨some 90, .call ⟨.value (.func 18), #[.const (.string ⟨#[109, 97, 105, 110]⟩), .const (.slice none 0 0)], #[9, 22]⟩, none, false, [], false⟩,
 ⟨some 91, .buildSlice 33 2 #[(0, .tmp 89), (1, .tmp 90)], none, false, [], false⟩,
 ⟨some 92, .call ⟨.value (.func 20), #[.tmp 91], #[33]⟩, none, false, [], false⟩,
 ⟨some 93, .buildSlice 50 4 #[(0, .tmp 76), (1, .tmp 80), (2, .tmp 87), (3, .tmp 92)], none, false, [], false⟩,
 ⟨some 12, .assign (.tmp 93), none, false, [], false⟩])
 (.seq (.seq
 (.reg false [⟨some 13, .assign (.const (.int .i64 0)), none, false, [], false⟩])
 (.block 2
 (.loop (.seq (.seq
 (.reg false [⟨some 94, .move (.tmp 13), none, false, [], false⟩,
 ⟨some 95, .move (.tmp 12), none, false, [], false⟩,
 ⟨some 96, .call ⟨.builtin .len, #[.tmp 95], #[50]⟩, none, false, [], false⟩,
 ⟨some 97, .binOp .lss 3 (.tmp 94) (.tmp 96) 3, none, false, [], false⟩])
 (.cond (.tmp 97)
 .skip
 (.exit 2)))
 (.seq (.block 3
 (.seq (.reg false [⟨some 100, .move (.tmp 12), none, false, [], false⟩,
 ⟨some 101, .move (.tmp 13), none, false, [], false⟩,
 ⟨some 102, .indexAddr 50 (.tmp 100) (.tmp 101), none, false, [], false⟩,
 ⟨some 103, .load 36 (.tmp 102), none, false, [], false⟩,
 ⟨some 104, .call ⟨.value (.func 21), #[.tmp 103], #[36]⟩, none, false, [], false⟩,
 ⟨some 105, .unOp .not 4 (.tmp 104), none, false, [], false⟩,
 ⟨some 106, .move (.tmp 105), none, false, [], false⟩,
 ⟨some 107, .move (.tmp 12), some (some 106, false), false, [], false⟩,
 ⟨some 108, .move (.tmp 13), some (some 106, false), false, [], false⟩,
 ⟨some 109, .indexAddr 50 (.tmp 107) (.tmp 108), some (some 106, false), false, [], false⟩,
 ⟨some 110, .load 36 (.tmp 109), some (some 106, false), false, [], false⟩,
 ⟨some 111, .call ⟨.value (.func 22), #[.tmp 110, .const (.slice none 0 0), .const (.int .i64 200)], #[36, 22, 3]⟩, some (some 106, false), false, [], false⟩,
 ⟨some 112, .unOp .not 4 (.tmp 111), some (some 106, false), false, [], false⟩,
 ⟨some 113, .pick (.tmp 106) (.const (.bool true)) (.tmp 112), none, false, [], false⟩,
 ⟨some 114, .move (.tmp 113), none, false, [], false⟩,
 ⟨some 115, .move (.tmp 12), some (some 114, false), false, [], false⟩,
 ⟨some 116, .move (.tmp 13), some (some 114, false), false, [], false⟩,
 ⟨some 117, .indexAddr 50 (.tmp 115) (.tmp 116), some (some 114, false), false, [], false⟩,
 ⟨some 118, .load 36 (.tmp 117), some (some 114, false), false, [], false⟩,
 ⟨some 119, .call ⟨.value (.func 23), #[.tmp 118, .const (.slice none 0 0), .const (.int .i64 200)], #[36, 22, 3]⟩, some (some 114, false), false, [], false⟩,
 ⟨some 120, .unOp .not 4 (.tmp 119), some (some 114, false), false, [], false⟩,
 ⟨some 121, .pick (.tmp 114) (.const (.bool true)) (.tmp 120), none, false, [], false⟩])
 (.cond (.tmp 121)
 (.seq (.reg false [⟨some 0, .assign (.const (.bool false)), none, false, [], false⟩])
 .ret)
 .skip)))
 (.reg false [⟨some 98, .move (.tmp 13), none, false, [], false⟩,
 ⟨some 99, .binOp .add 3 (.tmp 98) (.const (.int .i64 1)) 3, none, false, [], false⟩,
 ⟨some 13, .assign (.tmp 99), none, false, [], false⟩]))))))
 (.seq (.reg false [⟨some 122, .move (.tmp 3), none, false, [], false⟩,
 ⟨some 123, .binOp .eql 3 (.tmp 122) (.const (.int .i64 1)) 3, none, false, [], false⟩,
 ⟨some 124, .move (.tmp 123), none, false, [], false⟩,
 ⟨some 125, .move (.tmp 4), some (some 124, true), false, [], false⟩,
 ⟨some 126, .pick (.tmp 124) (.tmp 125) (.const (.bool false)), none, false, [], false⟩,
 ⟨some 127, .move (.tmp 126), none, false, [], false⟩,
 ⟨some 128, .move (.tmp 6), some (some 127, true), false, [], false⟩,
 ⟨some 129, .unOp .not 4 (.tmp 128), some (some 127, true), false, [], false⟩,
 ⟨some 130, .pick (.tmp 127) (.tmp 129) (.const (.bool false)), none, false, [], false⟩,
 ⟨some 131, .move (.tmp 130), none, false, [], false⟩,
 ⟨some 132, .move (.tmp 7), some (some 131, true), false, [], false⟩,
 ⟨some 133, .binOp .eql 3 (.tmp 132) (.const (.int .i64 2)) 3, some (some 131, true), false, [], false⟩,
 ⟨some 134, .pick (.tmp 131) (.tmp 133) (.const (.bool false)), none, false, [], false⟩,
 ⟨some 135, .move (.tmp 134), none, false, [], false⟩,
 ⟨some 136, .move (.tmp 8), some (some 135, true), false, [], false⟩,
 ⟨some 137, .pick (.tmp 135) (.tmp 136) (.const (.bool false)), none, false, [], false⟩,
 ⟨some 138, .move (.tmp 137), none, false, [], false⟩,
 ⟨some 139, .move (.tmp 10), some (some 138, true), false, [], false⟩,
 ⟨some 140, .binOp .eql 3 (.tmp 139) (.const (.int .i64 0)) 3, some (some 138, true), false, [], false⟩,
 ⟨some 141, .pick (.tmp 138) (.tmp 140) (.const (.bool false)), none, false, [], false⟩,
 ⟨some 142, .move (.tmp 141), none, false, [], false⟩,
 ⟨some 143, .move (.tmp 11), some (some 142, true), false, [], false⟩,
 ⟨some 144, .unOp .not 4 (.tmp 143), some (some 142, true), false, [], false⟩,
 ⟨some 145, .pick (.tmp 142) (.tmp 144) (.const (.bool false)), none, false, [], false⟩,
 ⟨some 146, .move (.tmp 145), none, false, [], false⟩,
 ⟨some 147, .call ⟨.value (.func 24), #[], #[]⟩, some (some 146, true), false, [], false⟩,
 ⟨some 148, .pick (.tmp 146) (.tmp 147) (.const (.bool false)), none, false, [], false⟩,
 ⟨some 0, .assign (.tmp 148), none, false, [], false⟩])
 .ret)))))))))))))
noncomputable def fi4 : FI := ⟨c4, 149, [.tmp 0], .plain⟩
noncomputable def c16 : XC :=
 (.seq (.reg false [⟨some 2, .box 25 (.tmp 0), none, false, [], false⟩,
 ⟨some 3, .box 25 (.tmp 1), none, false, [], false⟩,
 ⟨some 4, .assign (.const (.bool false)), none, false, [], false⟩])
 (.seq (.reg false [⟨some 5, .fieldAddr 25 (.tmp 2) 0, none, false, [], false⟩,
 ⟨some 6, .load 9 (.tmp 5), none, false, [], false⟩,
 ⟨some 7, .fieldAddr 25 (.tmp 3) 0, none, false, [], false⟩,
 ⟨some 8, .load 9 (.tmp 7), none, false, [], false⟩,
 ⟨some 9, .binOp .eql 9 (.tmp 6) (.tmp 8) 9, none, false, [], false⟩,
 ⟨some 10, .move (.tmp 9), none, false, [], false⟩,
 ⟨some 11, .fieldAddr 25 (.tmp 2) 1, some (some 10, true), false, [], false⟩,
 ⟨some 12, .load 3 (.tmp 11), some (some 10, true), false, [], false⟩,
 ⟨some 13, .fieldAddr 25 (.tmp 3) 1, some (some 10, true), false, [], false⟩,
 ⟨some 14, .load 3 (.tmp 13), some (some 10, true), false, [], false⟩,
 ⟨some 15, .binOp .eql 3 (.tmp 12) (.tmp 14) 3, some (some 10, true), false, [], false⟩,
 ⟨some 16, .pick (.tmp 10) (.tmp 15) (.const (.bool false)), none, false, [], false⟩,
 ⟨some 17, .move (.tmp 16), none, false, [], false⟩,
 ⟨some 18, .fieldAddr 25 (.tmp 2) 2, some (some 17, true), false, [], false⟩,
 ⟨some 19, .load 3 (.tmp 18), some (some 17, true), false, [], false⟩,
 ⟨some 20, .fieldAddr 25 (.tmp 3) 2, some (some 17, true), false, [], false⟩,
 ⟨some 21, .load 3 (.tmp 20), some (some 17, true), false, [], false⟩,
 ⟨some 22, .binOp .eql 3 (.tmp 19) (.tmp 21) 3, some (some 17, true), false, [], false⟩,
 ⟨some 23, .pick (.tmp 17) (.tmp 22) (.const (.bool false)), none, false, [], false⟩,
 ⟨some 24, .move (.tmp 23), none, false, [], false⟩,
 ⟨some 25, .fieldAddr 25 (.tmp 2) 3, some (some 24, true), false, [], false⟩,
 ⟨some 26, .load 22 (.tmp 25), some (some 24, true), false, [], false⟩,
 ⟨some 27, .fieldAddr 25 (.tmp 3) 3, some (some 24, true), false, [], false⟩,
 ⟨some 28, .load 22 (.tmp 27), some (some 24, true), false, [], false⟩,
 ⟨some 29, .call ⟨.value (.func 61), #[.tmp 26, .tmp 28], #[22, 22]⟩, some (some 24, true), false, [], false⟩,
 ⟨some 30, .pick (.tmp 24) (.tmp 29) (.const (.bool false)), none, false, [], false⟩,
 ⟨some 31, .move (.tmp 30), none, false, [], false⟩,
 ⟨some 32, .fieldAddr 25 (.tmp 2) 4, some (some 31, true), false, [], false⟩,
 ⟨some 33, .load 23 (.tmp 32), some (some 31, true), false, [], false⟩,
 ⟨some 34, .fieldAddr 25 (.tmp 3) 4, some (some 31, true), false, [], false⟩,
 ⟨some 35, .load 23 (.tmp 34), some (some 31, true), false, [], false⟩,
 ⟨some 36, .call ⟨.value (.func 64), #[.tmp 33, .tmp 35], #[23, 23]⟩, some (some 31, true), false, [], false⟩,
 ⟨some 37, .pick (.tmp 31) (.tmp 36) (.const (.bool false)), none, false, [], false⟩,
 ⟨some 4, .assign (.tmp 37), none, false, [], false⟩])
 .ret))
noncomputable def fi16 : FI := ⟨c16, 38, [.tmp 4], .plain⟩
noncomputable def c18 : XC :=
 (.seq (.reg false [⟨some 4, .alloc 25, none, false, [], false⟩])
 (.seq (.reg false [⟨some 7, .move (.tmp 0), none, false, [], false⟩,
 ⟨some 8, .buildSlice 22 1 #[(0, .const (.int .i64 1))], none, false, [], false⟩,
 ⟨some 9, .build 29 #[(0, .const (.int .i64 3))], none, false, [], false⟩,
 ⟨some 10, .build 49 #[(1, .tmp 9)], none, false, [], false⟩,
 ⟨some 11, .buildSlice 23 1 #[(0, .tmp 10)], none, false, [], false⟩,
 ⟨some 12, .build 25 #[(0, .tmp 7), (1, .const (.int .i64 1)), (3, .tmp 8), (4, .tmp 11)], none, false, [], false⟩,
 ⟨some 5, .alloc 25, none, false, [], false⟩,
 ⟨none, .store 25 (.tmp 5) (.tmp 12), none, false, [], false⟩])
 (.seq (.seq
 (.reg false [⟨some 6, .assign (.const (.int .i64 0)), none, false, [], false⟩])
 (.block 0
 (.loop (.seq (.seq
 (.reg false [⟨some 13, .move (.tmp 6), none, false, [], false⟩,
 ⟨some 14, .move (.tmp 1), none, false, [], false⟩,
 ⟨some 15, .call ⟨.builtin .len, #[.tmp 14], #[22]⟩, none, false, [], false⟩,
 ⟨some 16, .binOp .lss 3 (.tmp 13) (.tmp 15) 3, none, false, [], false⟩])
 (.cond (.tmp 16)
 .skip
 (.exit 0)))
 (.seq (.block 1
 (.reg true [⟨some 26, .move (.tmp 1), none, false, [], false⟩,
 ⟨some 27, .move (.tmp 6), none, false, [], false⟩,
 ⟨some 28, .indexAddr 22 (.tmp 26) (.tmp 27), none, false, [], false⟩,
 ⟨some 29, .load 3 (.tmp 28), none, false, [], false⟩,
 ⟨some 30, .build 46 #[(0, .const (.int .i64 9)), (5, .tmp 29)], none, false, [], false⟩,
 ⟨some 31, .buildSlice 47 1 #[(0, .tmp 30)], none, false, [], false⟩,
 ⟨some 21, .fieldAddr 25 (.tmp 5) 4, none, false, [], false⟩,
 ⟨some 22, .load 23 (.tmp 21), none, false, [], false⟩,
 ⟨some 23, .indexAddr 23 (.tmp 22) (.const (.int .i64 0)), none, false, [], false⟩,
 ⟨some 24, .fieldAddr 49 (.tmp 23) 0, none, false, [], false⟩,
 ⟨some 25, .load 47 (.tmp 24), none, false, [], false⟩,
 ⟨some 32, .call ⟨.builtin .append, #[.tmp 25, .tmp 31], #[47, 47]⟩, none, true, [false, false, true, true, true], false⟩,
 ⟨some 19, .fieldAddr 25 (.tmp 5) 4, none, false, [], false⟩,
 ⟨some 20, .load 23 (.tmp 19), none, false, [], true⟩,
 ⟨some 33, .indexAddr 23 (.tmp 20) (.const (.int .i64 0)), none, false, [], false⟩,
 ⟨some 34, .fieldAddr 49 (.tmp 33) 0, none, false, [], false⟩,
 ⟨none, .store 47 (.tmp 34) (.tmp 32), none, false, [], false⟩]))
 (.reg false [⟨some 17, .move (.tmp 6), none, false, [], false⟩,
 ⟨some 18, .binOp .add 3 (.tmp 17) (.const (.int .i64 1)) 3, none, false, [], false⟩,
 ⟨some 6, .assign (.tmp 18), none, false, [], false⟩]))))))
 (.seq (.reg false [⟨some 35, .load 25 (.tmp 5), none, false, [], false⟩,
 ⟨none, .store 25 (.tmp 4) (.tmp 35), none, false, [], false⟩])
 .ret))))
noncomputable def fi18 : FI := ⟨c18, 36, [.cell 4 25], .plain⟩
noncomputable def c19 : XC :=
 (.seq (.reg false [⟨some 1, .box 36 (.tmp 0), none, false, [], false⟩,
 ⟨some 2, .assign (.const (.int .i64 0)), none, false, [], false⟩,
 ⟨some 3, .assign (.const (.bool false)), none, false, [], false⟩])
 (.seq (.reg false [⟨some 9, .load 36 (.tmp 1), none, false, [], false⟩,
 ⟨some 10, .call ⟨.value (.func 65), #[.tmp 9], #[36]⟩, none, false, [], false⟩,
 ⟨some 8, .move (.tmp 10), none, false, [], false⟩,
 ⟨some 11, .extract (.tmp 8) 0, none, false, [], false⟩,
 ⟨some 12, .extract (.tmp 8) 1, none, false, [], false⟩,
 ⟨some 4, .assign (.tmp 11), none, false, [], false⟩,
 ⟨some 5, .assign (.tmp 12), none, false, [], false⟩])
 (.seq (.reg false [⟨some 14, .move (.tmp 4), none, false, [], false⟩,
 ⟨some 15, .move (.tmp 5), none, false, [], false⟩,
 ⟨some 16, .move (.tmp 4), none, false, [], false⟩,
 ⟨some 17, .call ⟨.builtin .len, #[.tmp 16], #[88]⟩, none, false, [], false⟩,
 ⟨some 18, .makeSlice 22 (.tmp 17) (.tmp 17), none, false, [], false⟩,
 ⟨some 19, .call ⟨.value (.func 66), #[.tmp 14, .tmp 15, .tmp 18], #[88, 3, 22]⟩, none, false, [], false⟩,
 ⟨some 13, .move (.tmp 19), none, false, [], false⟩,
 ⟨some 20, .extract (.tmp 13) 0, none, false, [], false⟩,
 ⟨some 21, .extract (.tmp 13) 1, none, false, [], false⟩,
 ⟨some 6, .assign (.tmp 20), none, false, [], false⟩,
 ⟨some 7, .assign (.tmp 21), none, false, [], false⟩])
 (.seq (.seq
 (.reg false [⟨some 22, .move (.tmp 7), none, false, [], false⟩,
 ⟨some 23, .unOp .not 4 (.tmp 22), none, false, [], false⟩])
 (.cond (.tmp 23)
 (.seq (.reg false [⟨some 2, .assign (.const (.int .i64 0)), none, false, [], false⟩,
 ⟨some 3, .assign (.const (.bool false)), none, false, [], false⟩])
 .ret)
 .skip))
 (.seq (.reg false [⟨some 24, .move (.tmp 6), none, false, [], false⟩,
 ⟨some 2, .assign (.tmp 24), none, false, [], false⟩,
 ⟨some 3, .assign (.const (.bool true)), none, false, [], false⟩])
 .ret)))))
noncomputable def fi19 : FI := ⟨c19, 25, [.tmp 2, .tmp 3], .plain⟩
noncomputable def c20 : XC :=
 (.seq (.reg false [⟨some 2, .alloc 36, none, false, [], false⟩])
 (.seq (.reg false [⟨some 3, .move (.tmp 0), none, false, [], false⟩,
 ⟨some 4, .build 36 #[(1, .tmp 3)], none, false, [], false⟩,
 ⟨none, .store 36 (.tmp 2) (.tmp 4), none, false, [], false⟩])
 .ret))
noncomputable def fi20 : FI := ⟨c20, 5, [.cell 2 36], .plain⟩
noncomputable def c21 : XC :=
 (.seq (.reg false [⟨some 1, .box 36 (.tmp 0), none, false, [], false⟩,
 ⟨some 2, .assign (.const (.bool false)), none, false, [], false⟩])
 (.seq (.seq
 (.reg false [⟨some 11, .load 36 (.tmp 1), none, false, [], false⟩,
 ⟨some 12, .call ⟨.value (.func 55), #[.tmp 11], #[36]⟩, none, false, [], false⟩])
 (.cond (.tmp 12)
 (.seq (.reg false [⟨some 13, .call ⟨.value (.func 24), #[], #[]⟩, none, false, [], false⟩,
 ⟨some 2, .assign (.tmp 13), none, false, [], false⟩])
 .ret)
 .skip))
 (.seq (.reg false [⟨some 14, .load 36 (.tmp 1), none, false, [], false⟩,
 ⟨some 15, .call ⟨.value (.func 67), #[.tmp 14], #[36]⟩, none, false, [], false⟩,
 ⟨some 3, .alloc 36, none, false, [], false⟩,
 ⟨none, .store 36 (.tmp 3) (.tmp 15), none, false, [], false⟩])
 (.seq (.reg false [⟨some 17, .load 36 (.tmp 3), none, false, [], false⟩,
 ⟨some 18, .call ⟨.value (.func 19), #[.tmp 17], #[36]⟩, none, false, [], false⟩,
 ⟨some 16, .move (.tmp 18), none, false, [], false⟩,
 ⟨some 19, .extract (.tmp 16) 0, none, false, [], false⟩,
 ⟨some 20, .extract (.tmp 16) 1, none, false, [], false⟩,
 ⟨some 4, .assign (.tmp 19), none, false, [], false⟩,
 ⟨some 5, .assign (.tmp 20), none, false, [], false⟩])
 (.seq (.reg false [⟨some 22, .load 36 (.tmp 1), none, false, [], false⟩,
 ⟨some 23, .call ⟨.value (.func 68), #[.tmp 22], #[36]⟩, none, false, [], false⟩,
 ⟨some 21, .move (.tmp 23), none, false, [], false⟩,
 ⟨some 24, .extract (.tmp 21) 0, none, false, [], false⟩,
 ⟨some 25, .extract (.tmp 21) 1, none, false, [], false⟩,
 ⟨some 6, .assign (.tmp 24), none, false, [], false⟩,
 ⟨some 7, .assign (.tmp 25), none, false, [], false⟩])
 (.seq (.reg false [⟨some 26, .load 36 (.tmp 3), none, false, [], false⟩,
 ⟨some 27, .call ⟨.value (.func 69), #[.tmp 26], #[36]⟩, none, false, [], false⟩,
 ⟨some 8, .alloc 36, none, false, [], false⟩,
 ⟨none, .store 36 (.tmp 8) (.tmp 27), none, false, [], false⟩])
 (.seq (.reg false [⟨some 28, .load 36 (.tmp 3), none, false, [], false⟩,
 ⟨some 29, .call ⟨.value (.func 69), #[.tmp 28], #[36]⟩, none, false, [], false⟩,
 ⟨some 9, .alloc 36, none, false, [], false⟩,
 ⟨none, .store 36 (.tmp 9) (.tmp 29), none, false, [], false⟩])
 (.seq (.reg false [⟨some 30, .load 36 (.tmp 1), none, false, [], false⟩,
 ⟨some 31, .call ⟨.value (.func 70), #[.tmp 30], #[36]⟩, none, false, [], false⟩,
 ⟨some 10, .alloc 36, none, false, [], false⟩,
 ⟨none, .store 36 (.tmp 10) (.tmp 31), none, false, [], false⟩])
 (.seq (.seq
 (.reg false [⟨some 32, .move (.tmp 4), none, false, [], false⟩,
 ⟨some 33, .move (.tmp 6), none, false, [], false⟩,
 ⟨some 34, .binOp .neq 3 (.tmp 32) (.tmp 33) 3, none, false, [], false⟩,
 ⟨some 35, .move (.tmp 34), none, false, [], false⟩,
 ⟨some 36, .move (.tmp 5), some (some 35, false), false, [], false⟩,
 ⟨some 37, .move (.tmp 7), some (some 35, false), false, [], false⟩,
 ⟨some 38, .binOp .neq 4 (.tmp 36) (.tmp 37) 4, some (some 35, false), false, [], false⟩,
 ⟨some 39, .pick (.tmp 35) (.const (.bool true)) (.tmp 38), none, false, [], false⟩,
 ⟨some 40, .move (.tmp 39), none, false, [], false⟩,
 ⟨some 41, .load 36 (.tmp 8), some (some 40, false), false, [], false⟩,
 ⟨some 42, .load 36 (.tmp 10), some (some 40, false), false, [], false⟩,
 ⟨some 43, .call ⟨.value (.func 49), #[.tmp 41, .tmp 42], #[36, 36]⟩, some (some 40, false), false, [], false⟩,
 ⟨some 44, .unOp .not 4 (.tmp 43), some (some 40, false), false, [], false⟩,
 ⟨some 45, .pick (.tmp 40) (.const (.bool true)) (.tmp 44), none, false, [], false⟩,
 ⟨some 46, .move (.tmp 45), none, false, [], false⟩,
 ⟨some 47, .load 36 (.tmp 3), some (some 46, false), false, [], false⟩,
 ⟨some 48, .load 36 (.tmp 1), some (some 46, false), false, [], false⟩,
 ⟨some 49, .call ⟨.value (.func 49), #[.tmp 47, .tmp 48], #[36, 36]⟩, some (some 46, false), false, [], false⟩,
 ⟨some 50, .unOp .not 4 (.tmp 49), some (some 46, false), false, [], false⟩,
 ⟨some 51, .pick (.tmp 46) (.const (.bool true)) (.tmp 50), none, false, [], false⟩])
 (.cond (.tmp 51)
 (.seq (.reg false [⟨some 2, .assign (.const (.bool false)), none, false, [], false⟩])
 .ret)
 .skip))
 (.seq (.reg false [⟨some 52, .load 36 (.tmp 8), none, false, [], false⟩,
 ⟨some 53, .call ⟨.value (.func 71), #[.tmp 52], #[36]⟩, none, false, [], false⟩])
 (.seq (.reg false [⟨some 54, .load 36 (.tmp 9), none, false, [], false⟩,
 ⟨some 55, .load 36 (.tmp 10), none, false, [], false⟩,
 ⟨some 56, .call ⟨.value (.func 49), #[.tmp 54, .tmp 55], #[36, 36]⟩, none, false, [], false⟩,
 ⟨some 57, .move (.tmp 56), none, false, [], false⟩,
 ⟨some 58, .load 36 (.tmp 3), some (some 57, true), false, [], false⟩,
 ⟨some 59, .load 36 (.tmp 1), some (some 57, true), false, [], false⟩,
 ⟨some 60, .call ⟨.value (.func 49), #[.tmp 58, .tmp 59], #[36, 36]⟩, some (some 57, true), false, [], false⟩,
 ⟨some 61, .pick (.tmp 57) (.tmp 60) (.const (.bool false)), none, false, [], false⟩,
 ⟨some 62, .move (.tmp 61), none, false, [], false⟩,
 ⟨some 63, .call ⟨.value (.func 24), #[], #[]⟩, some (some 62, true), false, [], false⟩,
 ⟨some 64, .pick (.tmp 62) (.tmp 63) (.const (.bool false)), none, false, [], false⟩,
 ⟨some 2, .assign (.tmp 64), none, false, [], false⟩])
 .ret)))))))))))
noncomputable def fi21 : FI := ⟨c21, 65, [.tmp 2], .plain⟩
noncomputable def c22 : XC :=
 (.seq (.reg false [⟨some 3, .box 36 (.tmp 0), none, false, [], false⟩,
 ⟨some 6, .assign (.const (.bool false)), none, false, [], false⟩])
 (.seq (.seq
 (.reg false [⟨some 12, .load 36 (.tmp 3), none, false, [], false⟩,
 ⟨some 13, .call ⟨.value (.func 55), #[.tmp 12], #[36]⟩, none, false, [], false⟩,
 ⟨some 14, .move (.tmp 13), none, false, [], false⟩,
 ⟨some 15, .move (.tmp 1), some (some 14, false), false, [], false⟩,
 ⟨some 16, .call ⟨.builtin .len, #[.tmp 15], #[22]⟩, some (some 14, false), false, [], false⟩,
 ⟨some 17, .binOp .gtr 3 (.tmp 16) (.const (.int .i64 1000)) 3, some (some 14, false), false, [], false⟩,
 ⟨some 18, .pick (.tmp 14) (.const (.bool true)) (.tmp 17), none, false, [], false⟩])
 (.cond (.tmp 18)
 (.seq (.reg false [⟨some 19, .call ⟨.value (.func 24), #[], #[]⟩, none, false, [], false⟩,
 ⟨some 6, .assign (.tmp 19), none, false, [], false⟩])
 .ret)
 .skip))
 (.seq (.reg false [⟨some 20, .load 36 (.tmp 3), none, false, [], false⟩,
 ⟨some 21, .call ⟨.value (.func 69), #[.tmp 20], #[36]⟩, none, false, [], false⟩,
 ⟨some 7, .alloc 36, none, false, [], false⟩,
 ⟨none, .store 36 (.tmp 7) (.tmp 21), none, false, [], false⟩])
 (.seq (.reg false [⟨some 22, .move (.tmp 2), none, false, [], false⟩,
 ⟨some 23, .call ⟨.value (.func 60), #[.tmp 22, .const (.int .i64 4000)], #[3, 3]⟩, none, false, [], false⟩,
 ⟨some 2, .assign (.tmp 23), none, false, [], false⟩])
 (.seq (.seq
 (.reg true [⟨some 24, .load 36 (.tmp 7), none, false, [], false⟩,
 ⟨some 25, .call ⟨.value (.func 36), #[.tmp 24], #[36]⟩, none, false, [true, true, true, true, true, true, true, true, true, true, true, true, true, true, true, true, true, true, true, true, true, true], false⟩,
 ⟨some 26, .binOp .neq 62 (.tmp 25) (.const (.int .i64 0)) 62, none, false, [], false⟩,
 ⟨some 27, .move (.tmp 26), none, false, [], false⟩,
 ⟨some 28, .fieldAddr 36 (.tmp 7) 1, some (some 27, false), false, [], false⟩,
 ⟨some 29, .load 33 (.tmp 28), some (some 27, false), false, [], false⟩,
 ⟨some 30, .call ⟨.builtin .len, #[.tmp 29], #[33]⟩, some (some 27, false), false, [], false⟩,
 ⟨some 31, .fieldAddr 36 (.tmp 3) 1, some (some 27, false), false, [], false⟩,
 ⟨some 32, .load 33 (.tmp 31), some (some 27, false), false, [], false⟩,
 ⟨some 33, .call ⟨.builtin .len, #[.tmp 32], #[33]⟩, some (some 27, false), false, [], false⟩,
 ⟨some 34, .binOp .gtr 3 (.tmp 30) (.tmp 33) 3, some (some 27, false), false, [], false⟩,
 ⟨some 35, .pick (.tmp 27) (.const (.bool true)) (.tmp 34), none, false, [], false⟩,
 ⟨some 36, .move (.tmp 35), none, false, [], false⟩,
 ⟨some 37, .load 36 (.tmp 7), some (some 36, false), false, [], false⟩,
 ⟨some 38, .move (.tmp 1), some (some 36, false), false, [], false⟩,
 ⟨some 39, .move (.tmp 2), some (some 36, false), false, [], false⟩,
 ⟨some 40, .call ⟨.value (.func 42), #[.tmp 37, .tmp 38, .tmp 39], #[36, 22, 3]⟩, some (some 36, false), true, [false, false, false, true, true, true, true], false⟩,
 ⟨some 41, .load 36 (.tmp 3), some (some 36, false), false, [], true⟩,
 ⟨some 42, .move (.tmp 1), some (some 36, false), false, [], false⟩,
 ⟨some 43, .move (.tmp 2), some (some 36, false), false, [], false⟩,
 ⟨some 44, .call ⟨.value (.func 42), #[.tmp 41, .tmp 42, .tmp 43], #[36, 22, 3]⟩, some (some 36, false), false, [true, true, true], false⟩,
 ⟨some 45, .call ⟨.value (.func 43), #[.tmp 40, .tmp 44], #[66, 66]⟩, some (some 36, false), false, [true, true], false⟩,
 ⟨some 46, .unOp .not 4 (.tmp 45), some (some 36, false), false, [], false⟩,
 ⟨some 47, .pick (.tmp 36) (.const (.bool true)) (.tmp 46), none, false, [], false⟩])
 (.cond (.tmp 47)
 (.seq (.reg false [⟨some 6, .assign (.const (.bool false)), none, false, [], false⟩])
 .ret)
 .skip))
 (.seq (.reg false [⟨some 49, .load 36 (.tmp 3), none, false, [], false⟩,
 ⟨some 50, .call ⟨.value (.func 19), #[.tmp 49], #[36]⟩, none, false, [], false⟩,
 ⟨some 48, .move (.tmp 50), none, false, [], false⟩,
 ⟨some 51, .extract (.tmp 48) 0, none, false, [], false⟩,
 ⟨some 52, .extract (.tmp 48) 1, none, false, [], false⟩,
 ⟨some 8, .assign (.tmp 51), none, false, [], false⟩,
 ⟨some 9, .assign (.tmp 52), none, false, [], false⟩])
 (.seq (.reg false [⟨some 54, .load 36 (.tmp 7), none, false, [], false⟩,
 ⟨some 55, .call ⟨.value (.func 19), #[.tmp 54], #[36]⟩, none, false, [], false⟩,
 ⟨some 53, .move (.tmp 55), none, false, [], false⟩,
 ⟨some 56, .extract (.tmp 53) 0, none, false, [], false⟩,
 ⟨some 57, .extract (.tmp 53) 1, none, false, [], false⟩,
 ⟨some 10, .assign (.tmp 56), none, false, [], false⟩,
 ⟨some 11, .assign (.tmp 57), none, false, [], false⟩])
 (.seq (.reg true [⟨some 58, .move (.tmp 8), none, false, [], false⟩,
 ⟨some 59, .move (.tmp 10), none, false, [], false⟩,
 ⟨some 60, .binOp .eql 3 (.tmp 58) (.tmp 59) 3, none, false, [], false⟩,
 ⟨some 61, .move (.tmp 60), none, false, [], false⟩,
 ⟨some 62, .move (.tmp 9), some (some 61, true), false, [], false⟩,
 ⟨some 63, .move (.tmp 11), some (some 61, true), false, [], false⟩,
 ⟨some 64, .binOp .eql 4 (.tmp 62) (.tmp 63) 4, some (some 61, true), false, [], false⟩,
 ⟨some 65, .pick (.tmp 61) (.tmp 64) (.const (.bool false)), none, false, [], false⟩,
 ⟨some 66, .move (.tmp 65), none, false, [], false⟩,
 ⟨some 67, .load 36 (.tmp 7), some (some 66, true), false, [], false⟩,
 ⟨some 68, .call ⟨.value (.func 69), #[.tmp 67], #[36]⟩, some (some 66, true), true, [false, true, true, true, true, true, true], false⟩,
 ⟨some 69, .load 36 (.tmp 7), some (some 66, true), false, [], true⟩,
 ⟨some 70, .call ⟨.value (.func 49), #[.tmp 68, .tmp 69], #[36, 36]⟩, some (some 66, true), false, [true, true, true, true, true], false⟩,
 ⟨some 71, .pick (.tmp 66) (.tmp 70) (.const (.bool false)), none, false, [], false⟩,
 ⟨some 72, .move (.tmp 71), none, false, [], false⟩,
 ⟨some 73, .call ⟨.value (.func 24), #[], #[]⟩, some (some 72, true), false, [true, true], false⟩,
 ⟨some 74, .pick (.tmp 72) (.tmp 73) (.const (.bool false)), none, false, [], false⟩,
 ⟨some 6, .assign (.tmp 74), none, false, [], false⟩])
 .ret))))))))
noncomputable def fi22 : FI := ⟨c22, 75, [.tmp 6], .plain⟩
noncomputable def c23 : XC :=
 (.seq (.reg false [⟨some 3, .box 36 (.tmp 0), none, false, [], false⟩,
 ⟨some 6, .assign (.const (.bool false)), none, false, [], false⟩])
 (.seq (.seq
 (.reg false [⟨some 11, .load 36 (.tmp 3), none, false, [], false⟩,
 ⟨some 12, .call ⟨.value (.func 55), #[.tmp 11], #[36]⟩, none, false, [], false⟩,
 ⟨some 13, .move (.tmp 12), none, false, [], false⟩,
 ⟨some 14, .move (.tmp 1), some (some 13, false), false, [], false⟩,
 ⟨some 15, .call ⟨.builtin .len, #[.tmp 14], #[22]⟩, some (some 13, false), false, [], false⟩,
 ⟨some 16, .binOp .gtr 3 (.tmp 15) (.const (.int .i64 1000)) 3, some (some 13, false), false, [], false⟩,
 ⟨some 17, .pick (.tmp 13) (.const (.bool true)) (.tmp 16), none, false, [], false⟩])
 (.cond (.tmp 17)
 (.seq (.reg false [⟨some 18, .call ⟨.value (.func 24), #[], #[]⟩, none, false, [], false⟩,
 ⟨some 6, .assign (.tmp 18), none, false, [], false⟩])
 .ret)
 .skip))
 (.seq (.reg false [⟨some 20, .load 36 (.tmp 3), none, false, [], false⟩,
 ⟨some 21, .call ⟨.value (.func 19), #[.tmp 20], #[36]⟩, none, false, [], false⟩,
 ⟨some 19, .move (.tmp 21), none, false, [], false⟩,
 ⟨some 22, .extract (.tmp 19) 0, none, false, [], false⟩,
 ⟨some 23, .extract (.tmp 19) 1, none, false, [], false⟩,
 ⟨some 7, .assign (.tmp 22), none, false, [], false⟩,
 ⟨some 8, .assign (.tmp 23), none, false, [], false⟩])
 (.seq (.reg true [⟨some 26, .move (.tmp 2), none, false, [], false⟩,
 ⟨some 27, .call ⟨.value (.func 60), #[.tmp 26, .const (.int .i64 4000)], #[3, 3]⟩, none, true, [false, false, true, false, true], false⟩,
 ⟨some 24, .load 36 (.tmp 3), none, false, [], true⟩,
 ⟨some 25, .move (.tmp 1), none, false, [], false⟩,
 ⟨some 28, .call ⟨.value (.func 42), #[.tmp 24, .tmp 25, .tmp 27], #[36, 22, 3]⟩, none, false, [false, true], false⟩,
 ⟨some 9, .alloc 66, none, false, [], false⟩,
 ⟨none, .store 66 (.tmp 9) (.tmp 28), none, false, [], false⟩])
 (.seq (.reg false [⟨some 29, .fieldAddr 66 (.tmp 9) 1, none, false, [], false⟩,
 ⟨some 30, .load 3 (.tmp 29), none, false, [], false⟩,
 ⟨some 31, .binOp .eql 3 (.tmp 30) (.const (.int .i64 2)) 3, none, false, [], false⟩,
 ⟨some 32, .move (.tmp 31), none, false, [], false⟩,
 ⟨some 33, .fieldAddr 66 (.tmp 9) 2, some (some 32, true), false, [], false⟩,
 ⟨some 34, .load 3 (.tmp 33), some (some 32, true), false, [], false⟩,
 ⟨some 35, .binOp .eql 3 (.tmp 34) (.const (.int .i64 4)) 3, some (some 32, true), false, [], false⟩,
 ⟨some 36, .pick (.tmp 32) (.tmp 35) (.const (.bool false)), none, false, [], false⟩,
 ⟨some 10, .assign (.tmp 36), none, false, [], false⟩])
 (.seq (.reg false [⟨some 37, .move (.tmp 10), none, false, [], false⟩,
 ⟨some 38, .unOp .not 4 (.tmp 37), none, false, [], false⟩,
 ⟨some 39, .move (.tmp 38), none, false, [], false⟩,
 ⟨some 40, .move (.tmp 8), some (some 39, false), false, [], false⟩,
 ⟨some 41, .unOp .not 4 (.tmp 40), some (some 39, false), false, [], false⟩,
 ⟨some 42, .pick (.tmp 39) (.const (.bool true)) (.tmp 41), none, false, [], false⟩,
 ⟨some 43, .move (.tmp 42), none, false, [], false⟩,
 ⟨some 44, .move (.tmp 7), some (some 43, false), false, [], false⟩,
 ⟨some 45, .binOp .gtr 3 (.tmp 44) (.const (.int .i64 32)) 3, some (some 43, false), false, [], false⟩,
 ⟨some 46, .pick (.tmp 43) (.const (.bool true)) (.tmp 45), none, false, [], false⟩,
 ⟨some 47, .move (.tmp 46), none, false, [], false⟩,
 ⟨some 48, .move (.tmp 8), some (some 47, true), false, [], false⟩,
 ⟨some 49, .move (.tmp 48), some (some 47, true), false, [], false⟩,
 ⟨some 50, .move (.tmp 7), some (some 49, true), false, [], false⟩,
 ⟨some 51, .binOp .geq 3 (.tmp 50) (.const (.int .i64 1)) 3, some (some 49, true), false, [], false⟩,
 ⟨some 52, .pick (.tmp 49) (.tmp 51) (.const (.bool false)), some (some 47, true), false, [], false⟩,
 ⟨some 53, .move (.tmp 52), some (some 47, true), false, [], false⟩,
 ⟨some 54, .move (.tmp 7), some (some 53, true), false, [], false⟩,
 ⟨some 55, .fieldAddr 36 (.tmp 3) 1, some (some 53, true), false, [], false⟩,
 ⟨some 56, .load 33 (.tmp 55), some (some 53, true), false, [], false⟩,
 ⟨some 57, .call ⟨.builtin .len, #[.tmp 56], #[33]⟩, some (some 53, true), false, [], false⟩,
 ⟨some 58, .binOp .leq 3 (.tmp 54) (.tmp 57) 3, some (some 53, true), false, [], false⟩,
 ⟨some 59, .pick (.tmp 53) (.tmp 58) (.const (.bool false)), some (some 47, true), false, [], false⟩,
 ⟨some 60, .move (.tmp 59), some (some 47, true), false, [], false⟩,
 ⟨some 61, .move (.tmp 8), some (some 60, false), false, [], false⟩,
 ⟨some 62, .unOp .not 4 (.tmp 61), some (some 60, false), false, [], false⟩,
 ⟨some 63, .move (.tmp 62), some (some 60, false), false, [], false⟩,
 ⟨some 64, .move (.tmp 7), some (some 63, true), false, [], false⟩,
 ⟨some 65, .binOp .eql 3 (.tmp 64) (.const (.int .i64 0)) 3, some (some 63, true), false, [], false⟩,
 ⟨some 66, .pick (.tmp 63) (.tmp 65) (.const (.bool false)), some (some 60, false), false, [], false⟩,
 ⟨some 67, .pick (.tmp 60) (.const (.bool true)) (.tmp 66), some (some 47, true), false, [], false⟩,
 ⟨some 68, .pick (.tmp 47) (.tmp 67) (.const (.bool false)), none, false, [], false⟩,
 ⟨some 69, .move (.tmp 68), none, false, [], false⟩,
 ⟨some 70, .call ⟨.value (.func 24), #[], #[]⟩, some (some 69, true), false, [], false⟩,
 ⟨some 71, .pick (.tmp 69) (.tmp 70) (.const (.bool false)), none, false, [], false⟩,
 ⟨some 6, .assign (.tmp 71), none, false, [], false⟩])
 .ret))))))
noncomputable def fi23 : FI := ⟨c23, 72, [.tmp 6], .plain⟩
noncomputable def c24 : XC :=
 (.seq (.reg false [⟨some 0, .assign (.const (.bool false)), none, false, [], false⟩])
 (.seq (.reg false [⟨some 6, .call ⟨.value (.func 18), #[.const (.string ⟨#[102]⟩), .const (.slice none 0 0)], #[9, 22]⟩, none, false, [], false⟩,
 ⟨some 7, .buildSlice 22 2 #[(0, .const (.int .i64 0)), (1, .const (.int .i64 2))], none, false, [], false⟩,
 ⟨some 8, .call ⟨.value (.func 18), #[.const (.string ⟨#[109, 97, 105, 110]⟩), .tmp 7], #[9, 22]⟩, none, false, [], false⟩,
 ⟨some 9, .buildSlice 22 1 #[(0, .const (.int .i64 0))], none, false, [], false⟩,
 ⟨some 10, .call ⟨.value (.func 18), #[.const (.string ⟨#[103]⟩), .tmp 9], #[9, 22]⟩, none, false, [], false⟩,
 ⟨some 11, .buildSlice 22 1 #[(0, .const (.int .i64 3))], none, false, [], false⟩,
 ⟨some 12, .call ⟨.value (.func 18), #[.const (.string ⟨#[104]⟩), .tmp 11], #[9, 22]⟩, none, false, [], false⟩,
 ⟨some 13, .buildSlice 33 4 #[(0, .tmp 6), (1, .tmp 8), (2, .tmp 10), (3, .tmp 12)], none, false, [], false⟩,
 ⟨some 14, .call ⟨.value (.func 20), #[.tmp 13], #[33]⟩, none, false, [], false⟩,
 ⟨some 1, .alloc 36, none, false, [], false⟩,
 ⟨none, .store 36 (.tmp 1) (.tmp 14), none, false, [], false⟩])
 (.seq (.reg false [⟨some 16, .load 36 (.tmp 1), none, false, [], false⟩,
 ⟨some 17, .call ⟨.value (.func 19), #[.tmp 16], #[36]⟩, none, false, [], false⟩,
 ⟨some 15, .move (.tmp 17), none, false, [], false⟩,
 ⟨some 18, .extract (.tmp 15) 0, none, false, [], false⟩,
 ⟨some 19, .extract (.tmp 15) 1, none, false, [], false⟩,
 ⟨some 2, .assign (.tmp 18), none, false, [], false⟩,
 ⟨some 3, .assign (.tmp 19), none, false, [], false⟩])
 (.seq (.reg false [⟨some 21, .buildSlice 22 1 #[(0, .const (.int .i64 1))], none, false, [], false⟩,
 ⟨some 22, .call ⟨.value (.func 18), #[.const (.string ⟨#[109, 97, 105, 110]⟩), .tmp 21], #[9, 22]⟩, none, false, [], false⟩,
 ⟨some 23, .buildSlice 22 1 #[(0, .const (.int .i64 0))], none, false, [], false⟩,
 ⟨some 24, .call ⟨.value (.func 18), #[.const (.string ⟨#[102]⟩), .tmp 23], #[9, 22]⟩, none, false, [], false⟩,
 ⟨some 25, .buildSlice 33 2 #[(0, .tmp 22), (1, .tmp 24)], none, false, [], false⟩,
 ⟨some 26, .call ⟨.value (.func 20), #[.tmp 25], #[33]⟩, none, false, [], false⟩,
 ⟨some 27, .call ⟨.value (.func 19), #[.tmp 26], #[36]⟩, none, false, [], false⟩,
 ⟨some 20, .move (.tmp 27), none, false, [], false⟩,
 ⟨some 28, .extract (.tmp 20) 0, none, false, [], false⟩,
 ⟨some 29, .extract (.tmp 20) 1, none, false, [], false⟩,
 ⟨some 4, .assign (.tmp 28), none, false, [], false⟩,
 ⟨some 5, .assign (.tmp 29), none, false, [], false⟩])
 (.seq (.reg false [⟨some 30, .move (.tmp 2), none, false, [], false⟩,
 ⟨some 31, .binOp .eql 3 (.tmp 30) (.const (.int .i64 3)) 3, none, false, [], false⟩,
 ⟨some 32, .move (.tmp 31), none, false, [], false⟩,
 ⟨some 33, .move (.tmp 3), some (some 32, true), false, [], false⟩,
 ⟨some 34, .pick (.tmp 32) (.tmp 33) (.const (.bool false)), none, false, [], false⟩,
 ⟨some 35, .move (.tmp 34), none, false, [], false⟩,
 ⟨some 36, .move (.tmp 5), some (some 35, true), false, [], false⟩,
 ⟨some 37, .unOp .not 4 (.tmp 36), some (some 35, true), false, [], false⟩,
 ⟨some 38, .pick (.tmp 35) (.tmp 37) (.const (.bool false)), none, false, [], false⟩,
 ⟨some 39, .move (.tmp 38), none, false, [], false⟩,
 ⟨some 40, .load 36 (.tmp 1), some (some 39, true), false, [], false⟩,
 ⟨some 41, .call ⟨.value (.func 69), #[.tmp 40], #[36]⟩, some (some 39, true), false, [], false⟩,
 ⟨some 42, .call ⟨.value (.func 18), #[.const (.string ⟨#[102]⟩), .const (.slice none 0 0)], #[9, 22]⟩, some (some 39, true), false, [], false⟩,
 ⟨some 43, .buildSlice 22 2 #[(0, .const (.int .i64 0)), (1, .const (.int .i64 2))], some (some 39, true), false, [], false⟩,
 ⟨some 44, .call ⟨.value (.func 18), #[.const (.string ⟨#[109, 97, 105, 110]⟩), .tmp 43], #[9, 22]⟩, some (some 39, true), false, [], false⟩,
 ⟨some 45, .buildSlice 22 1 #[(0, .const (.int .i64 0))], some (some 39, true), false, [], false⟩,
 ⟨some 46, .call ⟨.value (.func 18), #[.const (.string ⟨#[103]⟩), .tmp 45], #[9, 22]⟩, some (some 39, true), false, [], false⟩,
 ⟨some 47, .buildSlice 33 3 #[(0, .tmp 42), (1, .tmp 44), (2, .tmp 46)], some (some 39, true), false, [], false⟩,
 ⟨some 48, .call ⟨.value (.func 20), #[.tmp 47], #[33]⟩, some (some 39, true), false, [], false⟩,
 ⟨some 49, .call ⟨.value (.func 49), #[.tmp 41, .tmp 48], #[36, 36]⟩, some (some 39, true), false, [], false⟩,
 ⟨some 50, .pick (.tmp 39) (.tmp 49) (.const (.bool false)), none, false, [], false⟩,
 ⟨some 0, .assign (.tmp 50), none, false, [], false⟩])
 .ret)))))
noncomputable def fi24 : FI := ⟨c24, 51, [.tmp 0], .plain⟩
noncomputable def c36 : XC :=
 (.seq (.reg false [⟨some 1, .box 36 (.tmp 0), none, false, [], false⟩,
 ⟨some 2, .assign (.const (.int .i64 0)), none, false, [], false⟩])
 (.seq (.seq
 (.reg false [⟨some 9, .fieldAddr 36 (.tmp 1) 0, none, false, [], false⟩,
 ⟨some 10, .load 34 (.tmp 9), none, false, [], false⟩,
 ⟨some 11, .call ⟨.builtin .len, #[.tmp 10], #[34]⟩, none, false, [], false⟩,
 ⟨some 12, .move (.const (.int .i64 0)), none, false, [], false⟩])
 (.block 0
 (.loop (.seq (.reg false [⟨some 13, .binOp .lss 3 (.tmp 12) (.tmp 11) 3, none, false, [], false⟩])
 (.seq (.cond (.tmp 13)
 .skip
 (.exit 0))
 (.seq (.block 1
 (.seq (.reg false [⟨some 14, .indexAddr 34 (.tmp 10) (.tmp 12), none, false, [], false⟩,
 ⟨some 15, .load 105 (.tmp 14), none, false, [], false⟩,
 ⟨some 4, .alloc 105, none, false, [], false⟩,
 ⟨none, .store 105 (.tmp 4) (.tmp 15), none, false, [], false⟩])
 (.seq (.reg false [⟨some 16, .fieldAddr 105 (.tmp 4) 1, none, false, [], false⟩,
 ⟨some 17, .load 3 (.tmp 16), none, false, [], false⟩,
 ⟨some 18, .call ⟨.value (.func 86), #[.tmp 17], #[3]⟩, none, false, [], false⟩,
 ⟨some 19, .unOp .not 4 (.tmp 18), none, false, [], false⟩,
 ⟨some 20, .move (.tmp 19), none, false, [], false⟩,
 ⟨some 21, .fieldAddr 105 (.tmp 4) 1, some (some 20, true), false, [], false⟩,
 ⟨some 22, .load 3 (.tmp 21), some (some 20, true), false, [], false⟩,
 ⟨some 23, .binOp .neq 3 (.tmp 22) (.const (.int .i64 3)) 3, some (some 20, true), false, [], false⟩,
 ⟨some 24, .move (.tmp 23), some (some 20, true), false, [], false⟩,
 ⟨some 25, .fieldAddr 105 (.tmp 4) 2, some (some 24, false), false, [], false⟩,
 ⟨some 26, .load 3 (.tmp 25), some (some 24, false), false, [], false⟩,
 ⟨some 27, .binOp .lss 3 (.tmp 26) (.const (.int .i64 1)) 3, some (some 24, false), false, [], false⟩,
 ⟨some 28, .pick (.tmp 24) (.const (.bool true)) (.tmp 27), some (some 20, true), false, [], false⟩,
 ⟨some 29, .pick (.tmp 20) (.tmp 28) (.const (.bool false)), none, false, [], false⟩])
 (.cond (.tmp 29)
 (.seq (.reg false [⟨some 2, .assign (.const (.int .i64 6)), none, false, [], false⟩])
 .ret)
 .skip))))
 (.reg false [⟨some 30, .binOp .add 3 (.tmp 12) (.const (.int .i64 1)) 3, none, false, [], false⟩,
 ⟨some 12, .move (.tmp 30), none, false, [], false⟩])))))))
 (.seq (.seq
 (.reg false [⟨some 31, .fieldAddr 36 (.tmp 1) 1, none, false, [], false⟩,
 ⟨some 32, .load 33 (.tmp 31), none, false, [], false⟩,
 ⟨some 33, .call ⟨.builtin .len, #[.tmp 32], #[33]⟩, none, false, [], false⟩,
 ⟨some 34, .move (.const (.int .i64 0)), none, false, [], false⟩])
 (.block 2
 (.loop (.seq (.reg false [⟨some 35, .binOp .lss 3 (.tmp 34) (.tmp 33) 3, none, false, [], false⟩])
 (.seq (.cond (.tmp 35)
 .skip
 (.exit 2))
 (.seq (.block 3
 (.seq (.reg false [⟨some 36, .indexAddr 33 (.tmp 32) (.tmp 34), none, false, [], false⟩,
 ⟨some 37, .load 25 (.tmp 36), none, false, [], false⟩,
 ⟨some 6, .alloc 25, none, false, [], false⟩,
 ⟨none, .store 25 (.tmp 6) (.tmp 37), none, false, [], false⟩])
 (.seq (.reg false [⟨some 38, .load 36 (.tmp 1), none, false, [], false⟩,
 ⟨some 39, .load 25 (.tmp 6), none, false, [], false⟩,
 ⟨some 40, .build 107 #[(0, .tmp 38), (1, .tmp 39)], none, false, [], false⟩,
 ⟨some 41, .call ⟨.value (.func 87), #[.tmp 40], #[107]⟩, none, false, [], false⟩,
 ⟨some 7, .assign (.tmp 41), none, false, [], false⟩])
 (.seq (.reg false [⟨some 42, .move (.tmp 7), none, false, [], false⟩,
 ⟨some 43, .binOp .neq 62 (.tmp 42) (.const (.int .i64 0)) 62, none, false, [], false⟩])
 (.cond (.tmp 43)
 (.seq (.reg false [⟨some 44, .move (.tmp 7), none, false, [], false⟩,
 ⟨some 2, .assign (.tmp 44), none, false, [], false⟩])
 .ret)
 .skip)))))
 (.reg false [⟨some 45, .binOp .add 3 (.tmp 34) (.const (.int .i64 1)) 3, none, false, [], false⟩,
 ⟨some 34, .move (.tmp 45), none, false, [], false⟩])))))))
 (.seq (.reg false [⟨some 46, .load 36 (.tmp 1), none, false, [], false⟩,
 ⟨some 47, .call ⟨.value (.func 88), #[.tmp 46], #[36]⟩, none, false, [], false⟩,
 ⟨some 8, .assign (.tmp 47), none, false, [], false⟩])
 (.seq (.seq
 (.reg false [⟨some 48, .move (.tmp 8), none, false, [], false⟩,
 ⟨some 49, .binOp .lss 3 (.tmp 48) (.const (.int .i64 0)) 3, none, false, [], false⟩,
 ⟨some 50, .move (.tmp 49), none, false, [], false⟩,
 ⟨some 51, .fieldAddr 36 (.tmp 1) 1, some (some 50, false), false, [], false⟩,
 ⟨some 52, .load 33 (.tmp 51), some (some 50, false), false, [], false⟩,
 ⟨some 53, .move (.tmp 8), some (some 50, false), false, [], false⟩,
 ⟨some 54, .indexAddr 33 (.tmp 52) (.tmp 53), some (some 50, false), false, [], false⟩,
 ⟨some 55, .fieldAddr 25 (.tmp 54) 1, some (some 50, false), false, [], false⟩,
 ⟨some 56, .load 3 (.tmp 55), some (some 50, false), false, [], false⟩,
 ⟨some 57, .binOp .neq 3 (.tmp 56) (.const (.int .i64 1)) 3, some (some 50, false), false, [], false⟩,
 ⟨some 58, .pick (.tmp 50) (.const (.bool true)) (.tmp 57), none, false, [], false⟩,
 ⟨some 59, .move (.tmp 58), none, false, [], false⟩,
 ⟨some 60, .fieldAddr 36 (.tmp 1) 1, some (some 59, false), false, [], false⟩,
 ⟨some 61, .load 33 (.tmp 60), some (some 59, false), false, [], false⟩,
 ⟨some 62, .move (.tmp 8), some (some 59, false), false, [], false⟩,
 ⟨some 63, .indexAddr 33 (.tmp 61) (.tmp 62), some (some 59, false), false, [], false⟩,
 ⟨some 64, .fieldAddr 25 (.tmp 63) 2, some (some 59, false), false, [], false⟩,
 ⟨some 65, .load 3 (.tmp 64), some (some 59, false), false, [], false⟩,
 ⟨some 66, .binOp .neq 3 (.tmp 65) (.const (.int .i64 0)) 3, some (some 59, false), false, [], false⟩,
 ⟨some 67, .pick (.tmp 59) (.const (.bool true)) (.tmp 66), none, false, [], false⟩])
 (.cond (.tmp 67)
 (.seq (.reg false [⟨some 2, .assign (.const (.int .i64 12)), none, false, [], false⟩])
 .ret)
 .skip))
 (.seq (.reg false [⟨some 2, .assign (.const (.int .i64 0)), none, false, [], false⟩])
 .ret))))))
noncomputable def fi36 : FI := ⟨c36, 68, [.tmp 2], .plain⟩
noncomputable def c42 : XC :=
 (.seq (.reg false [⟨some 3, .box 36 (.tmp 0), none, false, [], false⟩,
 ⟨some 6, .alloc 66, none, false, [], false⟩])
 (.seq (.reg false [⟨some 11, .load 36 (.tmp 3), none, false, [], false⟩,
 ⟨some 12, .move (.tmp 1), none, false, [], false⟩,
 ⟨some 13, .move (.tmp 2), none, false, [], false⟩,
 ⟨some 14, .build 116 #[(0, .tmp 11), (1, .tmp 12), (2, .tmp 13)], none, false, [], false⟩,
 ⟨some 15, .box 116 (.tmp 14), none, false, [], false⟩,
 ⟨some 7, .alloc 114, none, false, [], false⟩,
 ⟨none, .store 114 (.tmp 7) (.tmp 15), none, false, [], false⟩])
 (.seq (.seq
 (.reg false [⟨some 16, .fieldAddr 36 (.tmp 3) 0, none, false, [], false⟩,
 ⟨some 17, .load 34 (.tmp 16), none, false, [], false⟩,
 ⟨some 18, .call ⟨.builtin .len, #[.tmp 17], #[34]⟩, none, false, [], false⟩,
 ⟨some 19, .move (.const (.int .i64 0)), none, false, [], false⟩])
 (.block 0
 (.loop (.seq (.reg false [⟨some 20, .binOp .lss 3 (.tmp 19) (.tmp 18) 3, none, false, [], false⟩])
 (.seq (.cond (.tmp 20)
 .skip
 (.exit 0))
 (.seq (.block 1
 (.seq (.reg false [⟨some 21, .indexAddr 34 (.tmp 17) (.tmp 19), none, false, [], false⟩,
 ⟨some 22, .load 105 (.tmp 21), none, false, [], false⟩,
 ⟨some 9, .alloc 105, none, false, [], false⟩,
 ⟨none, .store 105 (.tmp 9) (.tmp 22), none, false, [], false⟩])
 (.reg true [⟨some 28, .fieldAddr 105 (.tmp 9) 2, none, false, [], false⟩,
 ⟨some 29, .load 3 (.tmp 28), none, false, [], false⟩,
 ⟨some 30, .call ⟨.builtin .max, #[.tmp 29, .const (.int .i64 1)], #[3, 3]⟩, none, false, [], false⟩,
 ⟨some 31, .makeSlice 22 (.tmp 30) (.tmp 30), none, false, [], false⟩,
 ⟨some 32, .buildSlice 87 1 #[(0, .tmp 31)], none, false, [], false⟩,
 ⟨some 24, .load 114 (.tmp 7), none, false, [], false⟩,
 ⟨some 25, .nilCheck (.tmp 24), none, false, [], false⟩,
 ⟨some 26, .fieldAddr 116 (.tmp 25) 3, none, false, [], false⟩,
 ⟨some 27, .load 87 (.tmp 26), none, false, [], false⟩,
 ⟨some 33, .call ⟨.builtin .append, #[.tmp 27, .tmp 32], #[87, 87]⟩, none, true, [false, true, true, true], false⟩,
 ⟨some 23, .load 114 (.tmp 7), none, false, [], true⟩,
 ⟨some 34, .nilCheck (.tmp 23), none, false, [], false⟩,
 ⟨some 35, .fieldAddr 116 (.tmp 34) 3, none, false, [], false⟩,
 ⟨none, .store 87 (.tmp 35) (.tmp 33), none, false, [], false⟩])))
 (.reg false [⟨some 36, .binOp .add 3 (.tmp 19) (.const (.int .i64 1)) 3, none, false, [], false⟩,
 ⟨some 19, .move (.tmp 36), none, false, [], false⟩])))))))
 (.seq
 .bad
 (.seq (.reg true [⟨some 39, .load 36 (.tmp 3), none, false, [], false⟩,
 ⟨some 40, .call ⟨.value (.func 88), #[.tmp 39], #[36]⟩, none, true, [false, true, true], false⟩,
 ⟨some 38, .load 114 (.tmp 7), none, false, [], true⟩,
 ⟨some 41, .call ⟨.value (.func 101), #[.tmp 38, .tmp 40, .const (.slice none 0 0)], #[114, 3, 22]⟩, none, false, [true], false⟩,
 ⟨some 10, .assign (.tmp 41), none, false, [], false⟩])
 (.seq (.reg false [⟨some 42, .load 114 (.tmp 7), none, false, [], false⟩,
 ⟨some 43, .nilCheck (.tmp 42), none, false, [], false⟩,
 ⟨some 44, .fieldAddr 116 (.tmp 43) 4, none, false, [], false⟩,
 ⟨some 45, .fieldAddr 66 (.tmp 44) 0, none, false, [], false⟩,
 ⟨some 46, .load 22 (.tmp 45), none, false, [], false⟩,
 ⟨some 47, .move (.tmp 10), none, false, [], false⟩,
 ⟨some 48, .build 66 #[(0, .tmp 46), (1, .const (.int .i64 1)), (2, .tmp 47)], none, false, [], false⟩,
 ⟨none, .store 66 (.tmp 6) (.tmp 48), none, false, [], false⟩])
 .ret))))))
noncomputable def fi42 : FI := ⟨c42, 49, [.cell 6 66], .dfr [(.reg false [⟨some 3, .box 36 (.tmp 0), none, false, [], false⟩,
 ⟨some 6, .alloc 66, none, false, [], false⟩]), (.reg false [⟨some 11, .load 36 (.tmp 3), none, false, [], false⟩,
 ⟨some 12, .move (.tmp 1), none, false, [], false⟩,
 ⟨some 13, .move (.tmp 2), none, false, [], false⟩,
 ⟨some 14, .build 116 #[(0, .tmp 11), (1, .tmp 12), (2, .tmp 13)], none, false, [], false⟩,
 ⟨some 15, .box 116 (.tmp 14), none, false, [], false⟩,
 ⟨some 7, .alloc 114, none, false, [], false⟩,
 ⟨none, .store 114 (.tmp 7) (.tmp 15), none, false, [], false⟩]), (.seq (.reg false [⟨some 16, .fieldAddr 36 (.tmp 3) 0, none, false, [], false⟩,
 ⟨some 17, .load 34 (.tmp 16), none, false, [], false⟩,
 ⟨some 18, .call ⟨.builtin .len, #[.tmp 17], #[34]⟩, none, false, [], false⟩,
 ⟨some 19, .move (.const (.int .i64 0)), none, false, [], false⟩])
 (.block 0
 (.loop (.seq (.reg false [⟨some 20, .binOp .lss 3 (.tmp 19) (.tmp 18) 3, none, false, [], false⟩])
 (.seq (.cond (.tmp 20)
 .skip
 (.exit 0))
 (.seq (.block 1
 (.seq (.reg false [⟨some 21, .indexAddr 34 (.tmp 17) (.tmp 19), none, false, [], false⟩,
 ⟨some 22, .load 105 (.tmp 21), none, false, [], false⟩,
 ⟨some 9, .alloc 105, none, false, [], false⟩,
 ⟨none, .store 105 (.tmp 9) (.tmp 22), none, false, [], false⟩])
 (.reg true [⟨some 28, .fieldAddr 105 (.tmp 9) 2, none, false, [], false⟩,
 ⟨some 29, .load 3 (.tmp 28), none, false, [], false⟩,
 ⟨some 30, .call ⟨.builtin .max, #[.tmp 29, .const (.int .i64 1)], #[3, 3]⟩, none, false, [], false⟩,
 ⟨some 31, .makeSlice 22 (.tmp 30) (.tmp 30), none, false, [], false⟩,
 ⟨some 32, .buildSlice 87 1 #[(0, .tmp 31)], none, false, [], false⟩,
 ⟨some 24, .load 114 (.tmp 7), none, false, [], false⟩,
 ⟨some 25, .nilCheck (.tmp 24), none, false, [], false⟩,
 ⟨some 26, .fieldAddr 116 (.tmp 25) 3, none, false, [], false⟩,
 ⟨some 27, .load 87 (.tmp 26), none, false, [], false⟩,
 ⟨some 33, .call ⟨.builtin .append, #[.tmp 27, .tmp 32], #[87, 87]⟩, none, true, [false, true, true, true], false⟩,
 ⟨some 23, .load 114 (.tmp 7), none, false, [], true⟩,
 ⟨some 34, .nilCheck (.tmp 23), none, false, [], false⟩,
 ⟨some 35, .fieldAddr 116 (.tmp 34) 3, none, false, [], false⟩,
 ⟨none, .store 87 (.tmp 35) (.tmp 33), none, false, [], false⟩])))
 (.reg false [⟨some 36, .binOp .add 3 (.tmp 19) (.const (.int .i64 1)) 3, none, false, [], false⟩,
 ⟨some 19, .move (.tmp 36), none, false, [], false⟩]))))))), (.reg false [⟨some 37, .makeFunc (.func 100) #[] #[.tmp 7, .tmp 6], none, false, [], false⟩])] (.tmp 37) (.seq (.reg true [⟨some 39, .load 36 (.tmp 3), none, false, [], false⟩,
 ⟨some 40, .call ⟨.value (.func 88), #[.tmp 39], #[36]⟩, none, true, [false, true, true], false⟩,
 ⟨some 38, .load 114 (.tmp 7), none, false, [], true⟩,
 ⟨some 41, .call ⟨.value (.func 101), #[.tmp 38, .tmp 40, .const (.slice none 0 0)], #[114, 3, 22]⟩, none, false, [true], false⟩,
 ⟨some 10, .assign (.tmp 41), none, false, [], false⟩])
 (.seq (.reg false [⟨some 42, .load 114 (.tmp 7), none, false, [], false⟩,
 ⟨some 43, .nilCheck (.tmp 42), none, false, [], false⟩,
 ⟨some 44, .fieldAddr 116 (.tmp 43) 4, none, false, [], false⟩,
 ⟨some 45, .fieldAddr 66 (.tmp 44) 0, none, false, [], false⟩,
 ⟨some 46, .load 22 (.tmp 45), none, false, [], false⟩,
 ⟨some 47, .move (.tmp 10), none, false, [], false⟩,
 ⟨some 48, .build 66 #[(0, .tmp 46), (1, .const (.int .i64 1)), (2, .tmp 47)], none, false, [], false⟩,
 ⟨none, .store 66 (.tmp 6) (.tmp 48), none, false, [], false⟩])
 .ret))⟩
noncomputable def c43 : XC :=
 (.seq (.reg false [⟨some 2, .box 66 (.tmp 0), none, false, [], false⟩,
 ⟨some 3, .box 66 (.tmp 1), none, false, [], false⟩,
 ⟨some 4, .assign (.const (.bool false)), none, false, [], false⟩])
 (.seq (.reg false [⟨some 5, .fieldAddr 66 (.tmp 2) 1, none, false, [], false⟩,
 ⟨some 6, .load 3 (.tmp 5), none, false, [], false⟩,
 ⟨some 7, .fieldAddr 66 (.tmp 3) 1, none, false, [], false⟩,
 ⟨some 8, .load 3 (.tmp 7), none, false, [], false⟩,
 ⟨some 9, .binOp .eql 3 (.tmp 6) (.tmp 8) 3, none, false, [], false⟩,
 ⟨some 10, .move (.tmp 9), none, false, [], false⟩,
 ⟨some 11, .fieldAddr 66 (.tmp 2) 2, some (some 10, true), false, [], false⟩,
 ⟨some 12, .load 3 (.tmp 11), some (some 10, true), false, [], false⟩,
 ⟨some 13, .fieldAddr 66 (.tmp 3) 2, some (some 10, true), false, [], false⟩,
 ⟨some 14, .load 3 (.tmp 13), some (some 10, true), false, [], false⟩,
 ⟨some 15, .binOp .eql 3 (.tmp 12) (.tmp 14) 3, some (some 10, true), false, [], false⟩,
 ⟨some 16, .pick (.tmp 10) (.tmp 15) (.const (.bool false)), none, false, [], false⟩,
 ⟨some 17, .move (.tmp 16), none, false, [], false⟩,
 ⟨some 18, .fieldAddr 66 (.tmp 2) 0, some (some 17, true), false, [], false⟩,
 ⟨some 19, .load 22 (.tmp 18), some (some 17, true), false, [], false⟩,
 ⟨some 20, .fieldAddr 66 (.tmp 3) 0, some (some 17, true), false, [], false⟩,
 ⟨some 21, .load 22 (.tmp 20), some (some 17, true), false, [], false⟩,
 ⟨some 22, .call ⟨.value (.func 61), #[.tmp 19, .tmp 21], #[22, 22]⟩, some (some 17, true), false, [], false⟩,
 ⟨some 23, .pick (.tmp 17) (.tmp 22) (.const (.bool false)), none, false, [], false⟩,
 ⟨some 4, .assign (.tmp 23), none, false, [], false⟩])
 .ret))
noncomputable def fi43 : FI := ⟨c43, 24, [.tmp 4], .plain⟩
noncomputable def c49 : XC :=
 (.seq (.reg false [⟨some 2, .box 36 (.tmp 0), none, false, [], false⟩,
 ⟨some 3, .box 36 (.tmp 1), none, false, [], false⟩,
 ⟨some 4, .assign (.const (.bool false)), none, false, [], false⟩])
 (.seq (.reg false [⟨some 5, .fieldAddr 36 (.tmp 2) 0, none, false, [], false⟩,
 ⟨some 6, .load 34 (.tmp 5), none, false, [], false⟩,
 ⟨some 7, .fieldAddr 36 (.tmp 3) 0, none, false, [], false⟩,
 ⟨some 8, .load 34 (.tmp 7), none, false, [], false⟩,
 ⟨some 9, .call ⟨.value (.func 104), #[.tmp 6, .tmp 8], #[34, 34]⟩, none, false, [], false⟩,
 ⟨some 10, .move (.tmp 9), none, false, [], false⟩,
 ⟨some 11, .fieldAddr 36 (.tmp 2) 1, some (some 10, true), false, [], false⟩,
 ⟨some 12, .load 33 (.tmp 11), some (some 10, true), false, [], false⟩,
 ⟨some 13, .fieldAddr 36 (.tmp 3) 1, some (some 10, true), false, [], false⟩,
 ⟨some 14, .load 33 (.tmp 13), some (some 10, true), false, [], false⟩,
 ⟨some 15, .call ⟨.value (.func 105), #[.tmp 12, .tmp 14], #[33, 33]⟩, some (some 10, true), false, [], false⟩,
 ⟨some 16, .pick (.tmp 10) (.tmp 15) (.const (.bool false)), none, false, [], false⟩,
 ⟨some 4, .assign (.tmp 16), none, false, [], false⟩])
 .ret))
noncomputable def fi49 : FI := ⟨c49, 17, [.tmp 4], .plain⟩
noncomputable def c51 : XC :=
 (.seq (.reg false [⟨some 2, .assign (.const (.slice none 0 0)), none, false, [], false⟩])
 (.seq (.seq
 (.reg false [⟨some 3, .move (.tmp 0), none, false, [], false⟩,
 ⟨some 4, .binOp .eql 22 (.tmp 3) (.const (.slice none 0 0)) 22, none, false, [], false⟩])
 (.cond (.tmp 4)
 (.seq (.reg false [⟨some 2, .assign (.const (.slice none 0 0)), none, false, [], false⟩])
 .ret)
 .skip))
 (.seq (.reg false [⟨some 5, .buildSlice 22 0 #[], none, false, [], false⟩,
 ⟨some 6, .move (.tmp 0), none, false, [], false⟩,
 ⟨some 7, .call ⟨.builtin .append, #[.tmp 5, .tmp 6], #[22, 22]⟩, none, false, [], false⟩,
 ⟨some 2, .assign (.tmp 7), none, false, [], false⟩])
 .ret)))
noncomputable def fi51 : FI := ⟨c51, 8, [.tmp 2], .plain⟩
noncomputable def c52 : XC :=
 (.seq (.reg false [⟨some 2, .assign (.const (.slice none 0 0)), none, false, [], false⟩])
 (.seq (.seq
 (.reg false [⟨some 3, .move (.tmp 0), none, false, [], false⟩,
 ⟨some 4, .binOp .eql 23 (.tmp 3) (.const (.slice none 0 0)) 23, none, false, [], false⟩])
 (.cond (.tmp 4)
 (.seq (.reg false [⟨some 2, .assign (.const (.slice none 0 0)), none, false, [], false⟩])
 .ret)
 .skip))
 (.seq (.reg false [⟨some 5, .buildSlice 23 0 #[], none, false, [], false⟩,
 ⟨some 6, .move (.tmp 0), none, false, [], false⟩,
 ⟨some 7, .call ⟨.builtin .append, #[.tmp 5, .tmp 6], #[23, 23]⟩, none, false, [], false⟩,
 ⟨some 2, .assign (.tmp 7), none, false, [], false⟩])
 .ret)))
noncomputable def fi52 : FI := ⟨c52, 8, [.tmp 2], .plain⟩
noncomputable def c53 : XC :=
 (.seq (.reg false [⟨some 2, .assign (.const (.slice none 0 0)), none, false, [], false⟩])
 (.seq (.seq
 (.reg false [⟨some 3, .move (.tmp 0), none, false, [], false⟩,
 ⟨some 4, .binOp .eql 47 (.tmp 3) (.const (.slice none 0 0)) 47, none, false, [], false⟩])
 (.cond (.tmp 4)
 (.seq (.reg false [⟨some 2, .assign (.const (.slice none 0 0)), none, false, [], false⟩])
 .ret)
 .skip))
 (.seq (.reg false [⟨some 5, .buildSlice 47 0 #[], none, false, [], false⟩,
 ⟨some 6, .move (.tmp 0), none, false, [], false⟩,
 ⟨some 7, .call ⟨.builtin .append, #[.tmp 5, .tmp 6], #[47, 47]⟩, none, false, [], false⟩,
 ⟨some 2, .assign (.tmp 7), none, false, [], false⟩])
 .ret)))
noncomputable def fi53 : FI := ⟨c53, 8, [.tmp 2], .plain⟩
noncomputable def c55 : XC :=
 (.seq (.reg false [⟨some 1, .box 36 (.tmp 0), none, false, [], false⟩,
 ⟨some 2, .assign (.const (.bool false)), none, false, [], false⟩])
 (.seq (.reg false [⟨some 3, .assign (.const (.int .i64 0)), none, false, [], false⟩])
 (.seq (.seq
 (.reg false [⟨some 4, .assign (.const (.int .i64 0)), none, false, [], false⟩])
 (.block 0
 (.loop (.seq (.seq
 (.reg false [⟨some 6, .move (.tmp 4), none, false, [], false⟩,
 ⟨some 7, .fieldAddr 36 (.tmp 1) 1, none, false, [], false⟩,
 ⟨some 8, .load 33 (.tmp 7), none, false, [], false⟩,
 ⟨some 9, .call ⟨.builtin .len, #[.tmp 8], #[33]⟩, none, false, [], false⟩,
 ⟨some 10, .binOp .lss 3 (.tmp 6) (.tmp 9) 3, none, false, [], false⟩])
 (.cond (.tmp 10)
 .skip
 (.exit 0)))
 (.seq (.block 1
 (.seq (.reg true [⟨some 13, .move (.tmp 3), none, false, [], false⟩,
 ⟨some 14, .fieldAddr 36 (.tmp 1) 1, none, false, [], false⟩,
 ⟨some 15, .load 33 (.tmp 14), none, false, [], false⟩,
 ⟨some 16, .move (.tmp 4), none, false, [], false⟩,
 ⟨some 17, .indexAddr 33 (.tmp 15) (.tmp 16), none, false, [], false⟩,
 ⟨some 18, .fieldAddr 25 (.tmp 17) 3, none, false, [], false⟩,
 ⟨some 19, .load 22 (.tmp 18), none, false, [], false⟩,
 ⟨some 20, .call ⟨.builtin .len, #[.tmp 19], #[22]⟩, none, false, [], false⟩,
 ⟨some 21, .binOp .add 3 (.tmp 13) (.tmp 20) 3, none, false, [], false⟩,
 ⟨some 22, .fieldAddr 36 (.tmp 1) 1, none, false, [], false⟩,
 ⟨some 23, .load 33 (.tmp 22), none, false, [], false⟩,
 ⟨some 24, .move (.tmp 4), none, false, [], false⟩,
 ⟨some 25, .indexAddr 33 (.tmp 23) (.tmp 24), none, false, [], false⟩,
 ⟨some 26, .fieldAddr 25 (.tmp 25) 4, none, false, [], false⟩,
 ⟨some 27, .load 23 (.tmp 26), none, false, [], false⟩,
 ⟨some 28, .call ⟨.builtin .len, #[.tmp 27], #[23]⟩, none, false, [], false⟩,
 ⟨some 29, .binOp .add 3 (.tmp 21) (.tmp 28) 3, none, false, [], false⟩,
 ⟨some 3, .assign (.tmp 29), none, false, [], false⟩])
 (.seq (.reg false [⟨some 5, .assign (.const (.int .i64 0)), none, false, [], false⟩])
 (.block 2
 (.loop (.seq (.seq
 (.reg false [⟨some 30, .move (.tmp 5), none, false, [], false⟩,
 ⟨some 31, .fieldAddr 36 (.tmp 1) 1, none, false, [], false⟩,
 ⟨some 32, .load 33 (.tmp 31), none, false, [], false⟩,
 ⟨some 33, .move (.tmp 4), none, false, [], false⟩,
 ⟨some 34, .indexAddr 33 (.tmp 32) (.tmp 33), none, false, [], false⟩,
 ⟨some 35, .fieldAddr 25 (.tmp 34) 4, none, false, [], false⟩,
 ⟨some 36, .load 23 (.tmp 35), none, false, [], false⟩,
 ⟨some 37, .call ⟨.builtin .len, #[.tmp 36], #[23]⟩, none, false, [], false⟩,
 ⟨some 38, .binOp .lss 3 (.tmp 30) (.tmp 37) 3, none, false, [], false⟩])
 (.cond (.tmp 38)
 .skip
 (.exit 2)))
 (.seq (.block 3
 (.reg false [⟨some 41, .move (.tmp 3), none, false, [], false⟩,
 ⟨some 42, .fieldAddr 36 (.tmp 1) 1, none, false, [], false⟩,
 ⟨some 43, .load 33 (.tmp 42), none, false, [], false⟩,
 ⟨some 44, .move (.tmp 4), none, false, [], false⟩,
 ⟨some 45, .indexAddr 33 (.tmp 43) (.tmp 44), none, false, [], false⟩,
 ⟨some 46, .fieldAddr 25 (.tmp 45) 4, none, false, [], false⟩,
 ⟨some 47, .load 23 (.tmp 46), none, false, [], false⟩,
 ⟨some 48, .move (.tmp 5), none, false, [], false⟩,
 ⟨some 49, .indexAddr 23 (.tmp 47) (.tmp 48), none, false, [], false⟩,
 ⟨some 50, .fieldAddr 49 (.tmp 49) 0, none, false, [], false⟩,
 ⟨some 51, .load 47 (.tmp 50), none, false, [], false⟩,
 ⟨some 52, .call ⟨.builtin .len, #[.tmp 51], #[47]⟩, none, false, [], false⟩,
 ⟨some 53, .binOp .add 3 (.tmp 41) (.tmp 52) 3, none, false, [], false⟩,
 ⟨some 3, .assign (.tmp 53), none, false, [], false⟩]))
 (.reg false [⟨some 39, .move (.tmp 5), none, false, [], false⟩,
 ⟨some 40, .binOp .add 3 (.tmp 39) (.const (.int .i64 1)) 3, none, false, [], false⟩,
 ⟨some 5, .assign (.tmp 40), none, false, [], false⟩]))))))))
 (.reg false [⟨some 11, .move (.tmp 4), none, false, [], false⟩,
 ⟨some 12, .binOp .add 3 (.tmp 11) (.const (.int .i64 1)) 3, none, false, [], false⟩,
 ⟨some 4, .assign (.tmp 12), none, false, [], false⟩]))))))
 (.seq (.reg false [⟨some 54, .move (.tmp 3), none, false, [], false⟩,
 ⟨some 55, .binOp .gtr 3 (.tmp 54) (.const (.int .i64 1000)) 3, none, false, [], false⟩,
 ⟨some 56, .move (.tmp 55), none, false, [], false⟩,
 ⟨some 57, .fieldAddr 36 (.tmp 1) 1, some (some 56, false), false, [], false⟩,
 ⟨some 58, .load 33 (.tmp 57), some (some 56, false), false, [], false⟩,
 ⟨some 59, .call ⟨.builtin .len, #[.tmp 58], #[33]⟩, some (some 56, false), false, [], false⟩,
 ⟨some 60, .binOp .gtr 3 (.tmp 59) (.const (.int .i64 12)) 3, some (some 56, false), false, [], false⟩,
 ⟨some 61, .pick (.tmp 56) (.const (.bool true)) (.tmp 60), none, false, [], false⟩,
 ⟨some 62, .move (.tmp 61), none, false, [], false⟩,
 ⟨some 63, .load 36 (.tmp 1), some (some 62, false), false, [], false⟩,
 ⟨some 64, .call ⟨.value (.func 108), #[.tmp 63], #[36]⟩, some (some 62, false), false, [], false⟩,
 ⟨some 65, .pick (.tmp 62) (.const (.bool true)) (.tmp 64), none, false, [], false⟩,
 ⟨some 66, .move (.tmp 65), none, false, [], false⟩,
 ⟨some 67, .load 36 (.tmp 1), some (some 66, false), false, [], false⟩,
 ⟨some 68, .call ⟨.value (.func 36), #[.tmp 67], #[36]⟩, some (some 66, false), false, [], false⟩,
 ⟨some 69, .binOp .neq 62 (.tmp 68) (.const (.int .i64 0)) 62, some (some 66, false), false, [], false⟩,
 ⟨some 70, .pick (.tmp 66) (.const (.bool true)) (.tmp 69), none, false, [], false⟩,
 ⟨some 2, .assign (.tmp 70), none, false, [], false⟩])
 .ret))))
noncomputable def fi55 : FI := ⟨c55, 71, [.tmp 2], .plain⟩
noncomputable def c56 : XC :=
 (.seq (.reg false [⟨some 1, .box 25 (.tmp 0), none, false, [], false⟩,
 ⟨some 2, .alloc 25, none, false, [], false⟩])
 (.seq (.reg false [⟨some 3, .fieldAddr 25 (.tmp 1) 3, none, false, [], false⟩,
 ⟨some 4, .load 22 (.tmp 3), none, false, [], false⟩,
 ⟨some 5, .call ⟨.value (.func 109), #[.tmp 4], #[22]⟩, none, false, [], false⟩,
 ⟨some 6, .fieldAddr 25 (.tmp 1) 3, none, false, [], false⟩,
 ⟨none, .store 22 (.tmp 6) (.tmp 5), none, false, [], false⟩])
 (.seq (.reg false [⟨some 7, .fieldAddr 25 (.tmp 1) 4, none, false, [], false⟩,
 ⟨some 8, .load 23 (.tmp 7), none, false, [], false⟩,
 ⟨some 9, .call ⟨.value (.func 93), #[.tmp 8], #[23]⟩, none, false, [], false⟩,
 ⟨some 10, .fieldAddr 25 (.tmp 1) 4, none, false, [], false⟩,
 ⟨none, .store 23 (.tmp 10) (.tmp 9), none, false, [], false⟩])
 (.seq (.reg false [⟨some 11, .load 25 (.tmp 1), none, false, [], false⟩,
 ⟨none, .store 25 (.tmp 2) (.tmp 11), none, false, [], false⟩])
 .ret))))
noncomputable def fi56 : FI := ⟨c56, 12, [.cell 2 25], .plain⟩
noncomputable def c58 : XC :=
 (.seq (.reg false [⟨some 1, .box 25 (.tmp 0), none, false, [], false⟩])
 (.seq (.seq
 (.reg false [⟨some 2, .assign (.const (.int .i64 0)), none, false, [], false⟩])
 (.block 0
 (.loop (.seq (.seq
 (.reg false [⟨some 4, .move (.tmp 2), none, false, [], false⟩,
 ⟨some 5, .fieldAddr 25 (.tmp 1) 4, none, false, [], false⟩,
 ⟨some 6, .load 23 (.tmp 5), none, false, [], false⟩,
 ⟨some 7, .call ⟨.builtin .len, #[.tmp 6], #[23]⟩, none, false, [], false⟩,
 ⟨some 8, .binOp .lss 3 (.tmp 4) (.tmp 7) 3, none, false, [], false⟩])
 (.cond (.tmp 8)
 .skip
 (.exit 0)))
 (.seq (.block 1
 (.seq (.seq
 (.reg false [⟨some 3, .assign (.const (.int .i64 0)), none, false, [], false⟩])
 (.block 2
 (.loop (.seq (.seq
 (.reg false [⟨some 11, .move (.tmp 3), none, false, [], false⟩,
 ⟨some 12, .fieldAddr 25 (.tmp 1) 4, none, false, [], false⟩,
 ⟨some 13, .load 23 (.tmp 12), none, false, [], false⟩,
 ⟨some 14, .move (.tmp 2), none, false, [], false⟩,
 ⟨some 15, .indexAddr 23 (.tmp 13) (.tmp 14), none, false, [], false⟩,
 ⟨some 16, .fieldAddr 49 (.tmp 15) 0, none, false, [], false⟩,
 ⟨some 17, .load 47 (.tmp 16), none, false, [], false⟩,
 ⟨some 18, .call ⟨.builtin .len, #[.tmp 17], #[47]⟩, none, false, [], false⟩,
 ⟨some 19, .binOp .lss 3 (.tmp 11) (.tmp 18) 3, none, false, [], false⟩])
 (.cond (.tmp 19)
 .skip
 (.exit 2)))
 (.seq (.block 3
 (.reg false [⟨some 22, .fieldAddr 25 (.tmp 1) 4, none, false, [], false⟩,
 ⟨some 23, .load 23 (.tmp 22), none, false, [], false⟩,
 ⟨some 24, .move (.tmp 2), none, false, [], false⟩,
 ⟨some 25, .indexAddr 23 (.tmp 23) (.tmp 24), none, false, [], false⟩,
 ⟨some 26, .fieldAddr 49 (.tmp 25) 0, none, false, [], false⟩,
 ⟨some 27, .load 47 (.tmp 26), none, false, [], false⟩,
 ⟨some 28, .move (.tmp 3), none, false, [], false⟩,
 ⟨some 29, .indexAddr 47 (.tmp 27) (.tmp 28), none, false, [], false⟩,
 ⟨some 30, .fieldAddr 46 (.tmp 29) 7, none, false, [], false⟩,
 ⟨some 31, .load 22 (.tmp 30), none, false, [], false⟩,
 ⟨some 32, .call ⟨.value (.func 111), #[.tmp 31], #[22]⟩, none, false, [], false⟩]))
 (.reg false [⟨some 20, .move (.tmp 3), none, false, [], false⟩,
 ⟨some 21, .binOp .add 3 (.tmp 20) (.const (.int .i64 1)) 3, none, false, [], false⟩,
 ⟨some 3, .assign (.tmp 21), none, false, [], false⟩]))))))
 (.reg false [⟨some 33, .fieldAddr 25 (.tmp 1) 4, none, false, [], false⟩,
 ⟨some 34, .load 23 (.tmp 33), none, false, [], false⟩,
 ⟨some 35, .move (.tmp 2), none, false, [], false⟩,
 ⟨some 36, .indexAddr 23 (.tmp 34) (.tmp 35), none, false, [], false⟩,
 ⟨some 37, .fieldAddr 49 (.tmp 36) 0, none, false, [], false⟩,
 ⟨some 38, .load 47 (.tmp 37), none, false, [], false⟩,
 ⟨some 39, .call ⟨.value (.func 112), #[.tmp 38], #[47]⟩, none, false, [], false⟩])))
 (.reg false [⟨some 9, .move (.tmp 2), none, false, [], false⟩,
 ⟨some 10, .binOp .add 3 (.tmp 9) (.const (.int .i64 1)) 3, none, false, [], false⟩,
 ⟨some 2, .assign (.tmp 10), none, false, [], false⟩]))))))
 (.seq (.reg false [⟨some 40, .fieldAddr 25 (.tmp 1) 3, none, false, [], false⟩,
 ⟨some 41, .load 22 (.tmp 40), none, false, [], false⟩,
 ⟨some 42, .call ⟨.value (.func 111), #[.tmp 41], #[22]⟩, none, false, [], false⟩])
 (.reg false [⟨some 43, .fieldAddr 25 (.tmp 1) 4, none, false, [], false⟩,
 ⟨some 44, .load 23 (.tmp 43), none, false, [], false⟩,
 ⟨some 45, .call ⟨.value (.func 113), #[.tmp 44], #[23]⟩, none, false, [], false⟩]))))
noncomputable def fi58 : FI := ⟨c58, 46, [], .plain⟩
noncomputable def c60 : XC :=
 (.seq (.reg false [⟨some 4, .assign (.const (.int .i64 0)), none, false, [], false⟩])
 (.seq (.seq
 (.reg false [⟨some 5, .move (.tmp 1), none, false, [], false⟩,
 ⟨some 6, .binOp .lss 3 (.tmp 5) (.const (.int .i64 1)) 3, none, false, [], false⟩])
 (.cond (.tmp 6)
 (.seq (.reg false [⟨some 4, .assign (.const (.int .i64 0)), none, false, [], false⟩])
 .ret)
 .skip))
 (.seq (.reg false [⟨some 7, .move (.tmp 0), none, false, [], false⟩,
 ⟨some 8, .move (.tmp 1), none, false, [], false⟩,
 ⟨some 9, .binOp .rem 3 (.tmp 7) (.tmp 8) 3, none, false, [], false⟩,
 ⟨some 0, .assign (.tmp 9), none, false, [], false⟩])
 (.seq (.seq
 (.reg false [⟨some 10, .move (.tmp 0), none, false, [], false⟩,
 ⟨some 11, .binOp .lss 3 (.tmp 10) (.const (.int .i64 0)) 3, none, false, [], false⟩])
 (.cond (.tmp 11)
 (.reg false [⟨some 12, .move (.tmp 0), none, false, [], false⟩,
 ⟨some 13, .move (.tmp 1), none, false, [], false⟩,
 ⟨some 14, .binOp .add 3 (.tmp 12) (.tmp 13) 3, none, false, [], false⟩,
 ⟨some 0, .assign (.tmp 14), none, false, [], false⟩])
 .skip))
 (.seq (.reg false [⟨some 15, .move (.tmp 0), none, false, [], false⟩,
 ⟨some 4, .assign (.tmp 15), none, false, [], false⟩])
 .ret)))))
noncomputable def fi60 : FI := ⟨c60, 16, [.tmp 4], .plain⟩
noncomputable def c61 : XC :=
 (.seq (.reg false [⟨some 4, .assign (.const (.bool false)), none, false, [], false⟩])
 (.seq (.seq
 (.reg false [⟨some 6, .move (.tmp 0), none, false, [], false⟩,
 ⟨some 7, .call ⟨.builtin .len, #[.tmp 6], #[22]⟩, none, false, [], false⟩,
 ⟨some 8, .move (.tmp 1), none, false, [], false⟩,
 ⟨some 9, .call ⟨.builtin .len, #[.tmp 8], #[22]⟩, none, false, [], false⟩,
 ⟨some 10, .binOp .neq 3 (.tmp 7) (.tmp 9) 3, none, false, [], false⟩])
 (.cond (.tmp 10)
 (.seq (.reg false [⟨some 4, .assign (.const (.bool false)), none, false, [], false⟩])
 .ret)
 .skip))
 (.seq (.seq
 (.reg false [⟨some 5, .assign (.const (.int .i64 0)), none, false, [], false⟩])
 (.block 0
 (.loop (.seq (.seq
 (.reg false [⟨some 11, .move (.tmp 5), none, false, [], false⟩,
 ⟨some 12, .move (.tmp 0), none, false, [], false⟩,
 ⟨some 13, .call ⟨.builtin .len, #[.tmp 12], #[22]⟩, none, false, [], false⟩,
 ⟨some 14, .binOp .lss 3 (.tmp 11) (.tmp 13) 3, none, false, [], false⟩])
 (.cond (.tmp 14)
 .skip
 (.exit 0)))
 (.seq (.block 1
 (.seq (.reg true [⟨some 17, .move (.tmp 0), none, false, [], false⟩,
 ⟨some 18, .move (.tmp 5), none, false, [], false⟩,
 ⟨some 19, .indexAddr 22 (.tmp 17) (.tmp 18), none, false, [], false⟩,
 ⟨some 20, .load 3 (.tmp 19), none, false, [], false⟩,
 ⟨some 21, .move (.tmp 1), none, false, [], false⟩,
 ⟨some 22, .move (.tmp 5), none, false, [], false⟩,
 ⟨some 23, .indexAddr 22 (.tmp 21) (.tmp 22), none, false, [], false⟩,
 ⟨some 24, .load 3 (.tmp 23), none, false, [], false⟩,
 ⟨some 25, .binOp .eql 3 (.tmp 20) (.tmp 24) 3, none, false, [], false⟩,
 ⟨some 26, .unOp .not 4 (.tmp 25), none, false, [], false⟩])
 (.cond (.tmp 26)
 (.seq (.reg false [⟨some 4, .assign (.const (.bool false)), none, false, [], false⟩])
 .ret)
 .skip)))
 (.reg false [⟨some 15, .move (.tmp 5), none, false, [], false⟩,
 ⟨some 16, .binOp .add 3 (.tmp 15) (.const (.int .i64 1)) 3, none, false, [], false⟩,
 ⟨some 5, .assign (.tmp 16), none, false, [], false⟩]))))))
 (.seq (.reg false [⟨some 4, .assign (.const (.bool true)), none, false, [], false⟩])
 .ret))))
noncomputable def fi61 : FI := ⟨c61, 27, [.tmp 4], .plain⟩
noncomputable def c63 : XC :=
 (.seq (.reg false [⟨some 4, .assign (.const (.bool false)), none, false, [], false⟩])
 (.seq (.seq
 (.reg false [⟨some 6, .move (.tmp 0), none, false, [], false⟩,
 ⟨some 7, .call ⟨.builtin .len, #[.tmp 6], #[47]⟩, none, false, [], false⟩,
 ⟨some 8, .move (.tmp 1), none, false, [], false⟩,
 ⟨some 9, .call ⟨.builtin .len, #[.tmp 8], #[47]⟩, none, false, [], false⟩,
 ⟨some 10, .binOp .neq 3 (.tmp 7) (.tmp 9) 3, none, false, [], false⟩])
 (.cond (.tmp 10)
 (.seq (.reg false [⟨some 4, .assign (.const (.bool false)), none, false, [], false⟩])
 .ret)
 .skip))
 (.seq (.seq
 (.reg false [⟨some 5, .assign (.const (.int .i64 0)), none, false, [], false⟩])
 (.block 0
 (.loop (.seq (.seq
 (.reg false [⟨some 11, .move (.tmp 5), none, false, [], false⟩,
 ⟨some 12, .move (.tmp 0), none, false, [], false⟩,
 ⟨some 13, .call ⟨.builtin .len, #[.tmp 12], #[47]⟩, none, false, [], false⟩,
 ⟨some 14, .binOp .lss 3 (.tmp 11) (.tmp 13) 3, none, false, [], false⟩])
 (.cond (.tmp 14)
 .skip
 (.exit 0)))
 (.seq (.block 1
 (.seq (.reg true [⟨some 17, .move (.tmp 0), none, false, [], false⟩,
 ⟨some 18, .move (.tmp 5), none, false, [], false⟩,
 ⟨some 19, .indexAddr 47 (.tmp 17) (.tmp 18), none, false, [], false⟩,
 ⟨some 20, .load 46 (.tmp 19), none, false, [], false⟩,
 ⟨some 21, .move (.tmp 1), none, false, [], false⟩,
 ⟨some 22, .move (.tmp 5), none, false, [], false⟩,
 ⟨some 23, .indexAddr 47 (.tmp 21) (.tmp 22), none, false, [], false⟩,
 ⟨some 24, .load 46 (.tmp 23), none, false, [], false⟩,
 ⟨some 25, .call ⟨.value (.func 114), #[.tmp 20, .tmp 24], #[46, 46]⟩, none, false, [true], false⟩,
 ⟨some 26, .unOp .not 4 (.tmp 25), none, false, [], false⟩])
 (.cond (.tmp 26)
 (.seq (.reg false [⟨some 4, .assign (.const (.bool false)), none, false, [], false⟩])
 .ret)
 .skip)))
 (.reg false [⟨some 15, .move (.tmp 5), none, false, [], false⟩,
 ⟨some 16, .binOp .add 3 (.tmp 15) (.const (.int .i64 1)) 3, none, false, [], false⟩,
 ⟨some 5, .assign (.tmp 16), none, false, [], false⟩]))))))
 (.seq (.reg false [⟨some 4, .assign (.const (.bool true)), none, false, [], false⟩])
 .ret))))
noncomputable def fi63 : FI := ⟨c63, 27, [.tmp 4], .plain⟩
noncomputable def c64 : XC :=
 (.seq (.reg false [⟨some 4, .assign (.const (.bool false)), none, false, [], false⟩])
 (.seq (.seq
 (.reg false [⟨some 6, .move (.tmp 0), none, false, [], false⟩,
 ⟨some 7, .call ⟨.builtin .len, #[.tmp 6], #[23]⟩, none, false, [], false⟩,
 ⟨some 8, .move (.tmp 1), none, false, [], false⟩,
 ⟨some 9, .call ⟨.builtin .len, #[.tmp 8], #[23]⟩, none, false, [], false⟩,
 ⟨some 10, .binOp .neq 3 (.tmp 7) (.tmp 9) 3, none, false, [], false⟩])
 (.cond (.tmp 10)
 (.seq (.reg false [⟨some 4, .assign (.const (.bool false)), none, false, [], false⟩])
 .ret)
 .skip))
 (.seq (.seq
 (.reg false [⟨some 5, .assign (.const (.int .i64 0)), none, false, [], false⟩])
 (.block 0
 (.loop (.seq (.seq
 (.reg false [⟨some 11, .move (.tmp 5), none, false, [], false⟩,
 ⟨some 12, .move (.tmp 0), none, false, [], false⟩,
 ⟨some 13, .call ⟨.builtin .len, #[.tmp 12], #[23]⟩, none, false, [], false⟩,
 ⟨some 14, .binOp .lss 3 (.tmp 11) (.tmp 13) 3, none, false, [], false⟩])
 (.cond (.tmp 14)
 .skip
 (.exit 0)))
 (.seq (.block 1
 (.seq (.reg true [⟨some 17, .move (.tmp 0), none, false, [], false⟩,
 ⟨some 18, .move (.tmp 5), none, false, [], false⟩,
 ⟨some 19, .indexAddr 23 (.tmp 17) (.tmp 18), none, false, [], false⟩,
 ⟨some 20, .fieldAddr 49 (.tmp 19) 1, none, false, [], false⟩,
 ⟨some 21, .load 29 (.tmp 20), none, false, [], false⟩,
 ⟨some 22, .move (.tmp 1), none, false, [], false⟩,
 ⟨some 23, .move (.tmp 5), none, false, [], false⟩,
 ⟨some 24, .indexAddr 23 (.tmp 22) (.tmp 23), none, false, [], false⟩,
 ⟨some 25, .fieldAddr 49 (.tmp 24) 1, none, false, [], false⟩,
 ⟨some 26, .load 29 (.tmp 25), none, false, [], false⟩,
 ⟨some 27, .binOp .eql 29 (.tmp 21) (.tmp 26) 29, none, false, [], false⟩,
 ⟨some 28, .move (.tmp 27), none, false, [], false⟩,
 ⟨some 29, .move (.tmp 0), some (some 28, true), false, [], false⟩,
 ⟨some 30, .move (.tmp 5), some (some 28, true), false, [], false⟩,
 ⟨some 31, .indexAddr 23 (.tmp 29) (.tmp 30), some (some 28, true), false, [], false⟩,
 ⟨some 32, .fieldAddr 49 (.tmp 31) 0, some (some 28, true), false, [], false⟩,
 ⟨some 33, .load 47 (.tmp 32), some (some 28, true), false, [], false⟩,
 ⟨some 34, .move (.tmp 1), some (some 28, true), false, [], false⟩,
 ⟨some 35, .move (.tmp 5), some (some 28, true), false, [], false⟩,
 ⟨some 36, .indexAddr 23 (.tmp 34) (.tmp 35), some (some 28, true), false, [], false⟩,
 ⟨some 37, .fieldAddr 49 (.tmp 36) 0, some (some 28, true), false, [], false⟩,
 ⟨some 38, .load 47 (.tmp 37), some (some 28, true), false, [], false⟩,
 ⟨some 39, .call ⟨.value (.func 63), #[.tmp 33, .tmp 38], #[47, 47]⟩, some (some 28, true), false, [true, true], false⟩,
 ⟨some 40, .pick (.tmp 28) (.tmp 39) (.const (.bool false)), none, false, [], false⟩,
 ⟨some 41, .unOp .not 4 (.tmp 40), none, false, [], false⟩])
 (.cond (.tmp 41)
 (.seq (.reg false [⟨some 4, .assign (.const (.bool false)), none, false, [], false⟩])
 .ret)
 .skip)))
 (.reg false [⟨some 15, .move (.tmp 5), none, false, [], false⟩,
 ⟨some 16, .binOp .add 3 (.tmp 15) (.const (.int .i64 1)) 3, none, false, [], false⟩,
 ⟨some 5, .assign (.tmp 16), none, false, [], false⟩]))))))
 (.seq (.reg false [⟨some 4, .assign (.const (.bool true)), none, false, [], false⟩])
 .ret))))
noncomputable def fi64 : FI := ⟨c64, 42, [.tmp 4], .plain⟩
noncomputable def c65 : XC :=
 (.seq (.reg false [⟨some 1, .box 36 (.tmp 0), none, false, [], false⟩,
 ⟨some 2, .assign (.const (.slice none 0 0)), none, false, [], false⟩,
 ⟨some 3, .assign (.const (.int .i64 0)), none, false, [], false⟩])
 (.seq (.reg false [⟨some 4, .assign (.const (.slice none 0 0)), none, false, [], false⟩])
 (.seq (.seq
 (.reg false [⟨some 9, .fieldAddr 36 (.tmp 1) 1, none, false, [], false⟩,
 ⟨some 10, .load 33 (.tmp 9), none, false, [], false⟩,
 ⟨some 11, .call ⟨.builtin .len, #[.tmp 10], #[33]⟩, none, false, [], false⟩,
 ⟨some 12, .move (.const (.int .i64 0)), none, false, [], false⟩])
 (.block 0
 (.loop (.seq (.reg false [⟨some 13, .binOp .lss 3 (.tmp 12) (.tmp 11) 3, none, false, [], false⟩])
 (.seq (.cond (.tmp 13)
 .skip
 (.exit 0))
 (.seq (.block 1
 (.seq (.reg false [⟨some 14, .indexAddr 33 (.tmp 10) (.tmp 12), none, false, [], false⟩,
 ⟨some 15, .load 25 (.tmp 14), none, false, [], false⟩,
 ⟨some 6, .alloc 25, none, false, [], false⟩,
 ⟨none, .store 25 (.tmp 6) (.tmp 15), none, false, [], false⟩])
 (.seq (.reg false [⟨some 7, .alloc 22, none, false, [], false⟩])
 (.seq (.seq
 (.reg false [⟨some 16, .load 25 (.tmp 6), none, false, [], false⟩,
 ⟨some 17, .call ⟨.value (.func 115), #[.tmp 16], #[25]⟩, none, false, [], false⟩])
 (.block 2
 (.rfn (.tmp 17) [18]
 (.reg false [⟨some 8, .assign (.tmp 18), none, false, [], false⟩])
 (.block 3
 (.reg true [⟨some 20, .move (.tmp 8), none, false, [], false⟩,
 ⟨some 21, .nilCheck (.tmp 20), none, false, [], false⟩,
 ⟨some 22, .fieldAddr 46 (.tmp 21) 5, none, false, [], false⟩,
 ⟨some 23, .load 3 (.tmp 22), none, false, [], false⟩,
 ⟨some 24, .buildSlice 22 1 #[(0, .tmp 23)], none, false, [], false⟩,
 ⟨some 19, .load 22 (.tmp 7), none, false, [], false⟩,
 ⟨some 25, .call ⟨.builtin .append, #[.tmp 19, .tmp 24], #[22, 22]⟩, none, false, [true], false⟩,
 ⟨none, .store 22 (.tmp 7) (.tmp 25), none, false, [], false⟩])))))
 (.reg false [⟨some 26, .move (.tmp 4), none, false, [], false⟩,
 ⟨some 27, .load 22 (.tmp 7), none, false, [], false⟩,
 ⟨some 28, .buildSlice 88 1 #[(0, .tmp 27)], none, false, [], false⟩,
 ⟨some 29, .call ⟨.builtin .append, #[.tmp 26, .tmp 28], #[88, 88]⟩, none, false, [], false⟩,
 ⟨some 4, .assign (.tmp 29), none, false, [], false⟩])))))
 (.reg false [⟨some 30, .binOp .add 3 (.tmp 12) (.const (.int .i64 1)) 3, none, false, [], false⟩,
 ⟨some 12, .move (.tmp 30), none, false, [], false⟩])))))))
 (.seq (.reg false [⟨some 31, .move (.tmp 4), none, false, [], false⟩,
 ⟨some 32, .fieldAddr 36 (.tmp 1) 1, none, false, [], false⟩,
 ⟨some 33, .load 33 (.tmp 32), none, false, [], false⟩,
 ⟨some 34, .call ⟨.value (.func 116), #[.tmp 33, .func 117], #[33, 135]⟩, none, false, [], false⟩,
 ⟨some 2, .assign (.tmp 31), none, false, [], false⟩,
 ⟨some 3, .assign (.tmp 34), none, false, [], false⟩])
 .ret))))
noncomputable def fi65 : FI := ⟨c65, 35, [.tmp 2, .tmp 3], .plain⟩
noncomputable def c66 : XC :=
 (.seq (.reg false [⟨some 6, .assign (.const (.int .i64 0)), none, false, [], false⟩,
 ⟨some 7, .assign (.const (.bool false)), none, false, [], false⟩])
 (.seq (.seq
 (.reg false [⟨some 13, .move (.tmp 2), none, false, [], false⟩,
 ⟨some 14, .move (.tmp 1), none, false, [], false⟩,
 ⟨some 15, .indexAddr 22 (.tmp 13) (.tmp 14), none, false, [], false⟩,
 ⟨some 16, .load 3 (.tmp 15), none, false, [], false⟩,
 ⟨some 17, .binOp .neq 3 (.tmp 16) (.const (.int .i64 0)) 3, none, false, [], false⟩])
 (.cond (.tmp 17)
 (.seq (.reg true [⟨some 18, .move (.tmp 2), none, false, [], false⟩,
 ⟨some 19, .move (.tmp 1), none, false, [], false⟩,
 ⟨some 20, .indexAddr 22 (.tmp 18) (.tmp 19), none, false, [], false⟩,
 ⟨some 21, .load 3 (.tmp 20), none, false, [], false⟩,
 ⟨some 22, .move (.tmp 2), none, false, [], false⟩,
 ⟨some 23, .move (.tmp 1), none, false, [], false⟩,
 ⟨some 24, .indexAddr 22 (.tmp 22) (.tmp 23), none, false, [], false⟩,
 ⟨some 25, .load 3 (.tmp 24), none, false, [], false⟩,
 ⟨some 26, .binOp .neq 3 (.tmp 25) (.const (.int .i64 (-1))) 3, none, false, [], false⟩,
 ⟨some 6, .assign (.tmp 21), none, false, [], false⟩,
 ⟨some 7, .assign (.tmp 26), none, false, [], false⟩])
 .ret)
 .skip))
 (.seq (.reg false [⟨some 27, .move (.tmp 2), none, false, [], false⟩,
 ⟨some 28, .move (.tmp 1), none, false, [], false⟩,
 ⟨some 29, .indexAddr 22 (.tmp 27) (.tmp 28), none, false, [], false⟩,
 ⟨none, .store 3 (.tmp 29) (.const (.int .i64 (-1))), none, false, [], false⟩])
 (.seq (.reg false [⟨some 8, .assign (.const (.int .i64 0)), none, false, [], false⟩])
 (.seq (.seq
 (.reg false [⟨some 30, .move (.tmp 0), none, false, [], false⟩,
 ⟨some 31, .move (.tmp 1), none, false, [], false⟩,
 ⟨some 32, .indexAddr 88 (.tmp 30) (.tmp 31), none, false, [], false⟩,
 ⟨some 33, .load 22 (.tmp 32), none, false, [], false⟩,
 ⟨some 34, .call ⟨.builtin .len, #[.tmp 33], #[22]⟩, none, false, [], false⟩,
 ⟨some 35, .move (.const (.int .i64 0)), none, false, [], false⟩])
 (.block 0
 (.loop (.seq (.reg false [⟨some 36, .binOp .lss 3 (.tmp 35) (.tmp 34) 3, none, false, [], false⟩])
 (.seq (.cond (.tmp 36)
 .skip
 (.exit 0))
 (.seq (.block 1
 (.seq (.reg false [⟨some 37, .indexAddr 22 (.tmp 33) (.tmp 35), none, false, [], false⟩,
 ⟨some 38, .load 3 (.tmp 37), none, false, [], false⟩,
 ⟨some 10, .assign (.tmp 38), none, false, [], false⟩])
 (.seq (.reg false [⟨some 40, .move (.tmp 0), none, false, [], false⟩,
 ⟨some 41, .move (.tmp 10), none, false, [], false⟩,
 ⟨some 42, .move (.tmp 2), none, false, [], false⟩,
 ⟨some 43, .call ⟨.value (.func 66), #[.tmp 40, .tmp 41, .tmp 42], #[88, 3, 22]⟩, none, false, [], false⟩,
 ⟨some 39, .move (.tmp 43), none, false, [], false⟩,
 ⟨some 44, .extract (.tmp 39) 0, none, false, [], false⟩,
 ⟨some 45, .extract (.tmp 39) 1, none, false, [], false⟩,
 ⟨some 11, .assign (.tmp 44), none, false, [], false⟩,
 ⟨some 12, .assign (.tmp 45), none, false, [], false⟩])
 (.seq (.seq
 (.reg false [⟨some 46, .move (.tmp 12), none, false, [], false⟩,
 ⟨some 47, .unOp .not 4 (.tmp 46), none, false, [], false⟩])
 (.cond (.tmp 47)
 (.seq (.reg false [⟨some 6, .assign (.const (.int .i64 0)), none, false, [], false⟩,
 ⟨some 7, .assign (.const (.bool false)), none, false, [], false⟩])
 .ret)
 .skip))
 (.reg false [⟨some 48, .move (.tmp 8), none, false, [], false⟩,
 ⟨some 49, .move (.tmp 11), none, false, [], false⟩,
 ⟨some 50, .call ⟨.builtin .max, #[.tmp 48, .tmp 49], #[3, 3]⟩, none, false, [], false⟩,
 ⟨some 8, .assign (.tmp 50), none, false, [], false⟩])))))
 (.reg false [⟨some 51, .binOp .add 3 (.tmp 35) (.const (.int .i64 1)) 3, none, false, [], false⟩,
 ⟨some 35, .move (.tmp 51), none, false, [], false⟩])))))))
 (.seq (.reg false [⟨some 52, .move (.tmp 2), none, false, [], false⟩,
 ⟨some 53, .move (.tmp 1), none, false, [], false⟩,
 ⟨some 54, .move (.tmp 8), none, false, [], false⟩,
 ⟨some 55, .binOp .add 3 (.tmp 54) (.const (.int .i64 1)) 3, none, false, [], false⟩,
 ⟨some 56, .indexAddr 22 (.tmp 52) (.tmp 53), none, false, [], false⟩,
 ⟨none, .store 3 (.tmp 56) (.tmp 55), none, false, [], false⟩])
 (.seq (.reg false [⟨some 57, .move (.tmp 2), none, false, [], false⟩,
 ⟨some 58, .move (.tmp 1), none, false, [], false⟩,
 ⟨some 59, .indexAddr 22 (.tmp 57) (.tmp 58), none, false, [], false⟩,
 ⟨some 60, .load 3 (.tmp 59), none, false, [], false⟩,
 ⟨some 6, .assign (.tmp 60), none, false, [], false⟩,
 ⟨some 7, .assign (.const (.bool true)), none, false, [], false⟩])
 .ret)))))))
noncomputable def fi66 : FI := ⟨c66, 61, [.tmp 6, .tmp 7], .plain⟩
noncomputable def c67 : XC :=
 (.seq (.reg false [⟨some 1, .box 36 (.tmp 0), none, false, [], false⟩,
 ⟨some 2, .alloc 36, none, false, [], false⟩])
 (.seq (.reg true [⟨some 3, .fieldAddr 36 (.tmp 1) 0, none, false, [], false⟩,
 ⟨some 4, .load 34 (.tmp 3), none, false, [], false⟩,
 ⟨some 5, .call ⟨.value (.func 118), #[.tmp 4], #[34]⟩, none, true, [false, false, true, true, true], false⟩,
 ⟨some 6, .fieldAddr 36 (.tmp 1) 1, none, false, [], false⟩,
 ⟨some 7, .load 33 (.tmp 6), none, false, [], true⟩,
 ⟨some 8, .call ⟨.value (.func 119), #[.tmp 7], #[33]⟩, none, false, [true, true], false⟩,
 ⟨some 9, .build 36 #[(0, .tmp 5), (1, .tmp 8)], none, false, [], false⟩,
 ⟨none, .store 36 (.tmp 2) (.tmp 9), none, false, [], false⟩])
 .ret))
noncomputable def fi67 : FI := ⟨c67, 10, [.cell 2 36], .plain⟩
noncomputable def c68 : XC :=
 (.seq (.reg false [⟨some 1, .box 36 (.tmp 0), none, false, [], false⟩,
 ⟨some 2, .assign (.const (.int .i64 0)), none, false, [], false⟩,
 ⟨some 3, .assign (.const (.bool false)), none, false, [], false⟩])
 (.seq (.reg false [⟨some 6, .fieldAddr 36 (.tmp 1) 1, none, false, [], false⟩,
 ⟨some 7, .load 33 (.tmp 6), none, false, [], false⟩,
 ⟨some 8, .call ⟨.builtin .len, #[.tmp 7], #[33]⟩, none, false, [], false⟩,
 ⟨some 9, .makeSlice 56 (.tmp 8) (.tmp 8), none, false, [], false⟩,
 ⟨some 4, .assign (.tmp 9), none, false, [], false⟩])
 (.seq (.reg false [⟨some 10, .move (.tmp 4), none, false, [], false⟩,
 ⟨some 11, .load 36 (.tmp 1), none, false, [], false⟩,
 ⟨some 12, .call ⟨.value (.func 120), #[.tmp 11], #[36]⟩, none, false, [], false⟩,
 ⟨some 13, .indexAddr 56 (.tmp 10) (.tmp 12), none, false, [], false⟩,
 ⟨none, .store 4 (.tmp 13) (.const (.bool true)), none, false, [], false⟩])
 (.seq (.reg false [⟨some 5, .assign (.const (.int .i64 0)), none, false, [], false⟩])
 (.seq (.block 0
 (.loop (.seq (.seq
 (.reg false [⟨some 14, .move (.tmp 4), none, false, [], false⟩,
 ⟨some 15, .call ⟨.value (.func 121), #[.tmp 14], #[56]⟩, none, false, [], false⟩])
 (.cond (.tmp 15)
 .skip
 (.exit 0)))
 (.block 1
 (.seq (.reg false [⟨some 16, .move (.tmp 5), none, false, [], false⟩,
 ⟨some 17, .binOp .add 3 (.tmp 16) (.const (.int .i64 1)) 3, none, false, [], false⟩,
 ⟨some 5, .assign (.tmp 17), none, false, [], false⟩])
 (.seq (.seq
 (.reg false [⟨some 18, .move (.tmp 5), none, false, [], false⟩,
 ⟨some 19, .fieldAddr 36 (.tmp 1) 1, none, false, [], false⟩,
 ⟨some 20, .load 33 (.tmp 19), none, false, [], false⟩,
 ⟨some 21, .call ⟨.builtin .len, #[.tmp 20], #[33]⟩, none, false, [], false⟩,
 ⟨some 22, .binOp .gtr 3 (.tmp 18) (.tmp 21) 3, none, false, [], false⟩])
 (.cond (.tmp 22)
 (.seq (.reg false [⟨some 2, .assign (.const (.int .i64 0)), none, false, [], false⟩,
 ⟨some 3, .assign (.const (.bool false)), none, false, [], false⟩])
 .ret)
 .skip))
 (.reg false [⟨some 23, .load 36 (.tmp 1), none, false, [], false⟩,
 ⟨some 24, .move (.tmp 4), none, false, [], false⟩,
 ⟨some 25, .call ⟨.value (.func 122), #[.tmp 23, .tmp 24], #[36, 56]⟩, none, false, [], false⟩,
 ⟨some 4, .assign (.tmp 25), none, false, [], false⟩])))))))
 (.seq (.reg false [⟨some 26, .move (.tmp 5), none, false, [], false⟩,
 ⟨some 2, .assign (.tmp 26), none, false, [], false⟩,
 ⟨some 3, .assign (.const (.bool true)), none, false, [], false⟩])
 .ret))))))
noncomputable def fi68 : FI := ⟨c68, 27, [.tmp 2, .tmp 3], .plain⟩
noncomputable def c69 : XC :=
 (.seq (.reg false [⟨some 1, .box 36 (.tmp 0), none, false, [], false⟩,
 ⟨some 2, .alloc 36, none, false, [], false⟩])
 (.seq (.reg false [⟨some 14, .load 36 (.tmp 1), none, false, [], false⟩,
 ⟨some 15, .call ⟨.value (.func 65), #[.tmp 14], #[36]⟩, none, false, [], false⟩,
 ⟨some 13, .move (.tmp 15), none, false, [], false⟩,
 ⟨some 16, .extract (.tmp 13) 0, none, false, [], false⟩,
 ⟨some 17, .extract (.tmp 13) 1, none, false, [], false⟩,
 ⟨some 3, .assign (.tmp 16), none, false, [], false⟩,
 ⟨some 4, .assign (.tmp 17), none, false, [], false⟩])
 (.seq (.reg false [⟨some 18, .move (.tmp 3), none, false, [], false⟩,
 ⟨some 19, .call ⟨.builtin .len, #[.tmp 18], #[88]⟩, none, false, [], false⟩,
 ⟨some 20, .makeSlice 56 (.tmp 19) (.tmp 19), none, false, [], false⟩,
 ⟨some 5, .assign (.tmp 20), none, false, [], false⟩])
 (.seq (.reg false [⟨some 21, .move (.tmp 3), none, false, [], false⟩,
 ⟨some 22, .move (.tmp 4), none, false, [], false⟩,
 ⟨some 23, .move (.tmp 5), none, false, [], false⟩,
 ⟨some 24, .call ⟨.value (.func 123), #[.tmp 21, .tmp 22, .tmp 23], #[88, 3, 56]⟩, none, false, [], false⟩])
 (.seq (.reg false [⟨some 25, .fieldAddr 36 (.tmp 1) 0, none, false, [], false⟩,
 ⟨some 26, .load 34 (.tmp 25), none, false, [], false⟩,
 ⟨some 27, .call ⟨.value (.func 97), #[.tmp 26], #[34]⟩, none, false, [], false⟩,
 ⟨some 28, .build 36 #[(0, .tmp 27)], none, false, [], false⟩,
 ⟨some 6, .alloc 36, none, false, [], false⟩,
 ⟨none, .store 36 (.tmp 6) (.tmp 28), none, false, [], false⟩])
 (.seq (.reg false [⟨some 29, .move (.tmp 3), none, false, [], false⟩,
 ⟨some 30, .call ⟨.builtin .len, #[.tmp 29], #[88]⟩, none, false, [], false⟩,
 ⟨some 31, .makeSlice 22 (.tmp 30) (.tmp 30), none, false, [], false⟩,
 ⟨some 7, .alloc 22, none, false, [], false⟩,
 ⟨none, .store 22 (.tmp 7) (.tmp 31), none, false, [], false⟩])
 (.seq (.seq
 (.reg false [⟨some 32, .fieldAddr 36 (.tmp 1) 1, none, false, [], false⟩,
 ⟨some 33, .load 33 (.tmp 32), none, false, [], false⟩,
 ⟨some 34, .call ⟨.builtin .len, #[.tmp 33], #[33]⟩, none, false, [], false⟩,
 ⟨some 35, .move (.const (.int .i64 0)), none, false, [], false⟩])
 (.block 0
 (.loop (.seq (.reg false [⟨some 36, .binOp .lss 3 (.tmp 35) (.tmp 34) 3, none, false, [], false⟩])
 (.seq (.cond (.tmp 36)
 .skip
 (.exit 0))
 (.seq (.block 1
 (.seq (.reg false [⟨some 37, .move (.tmp 35), none, false, [], false⟩,
 ⟨some 38, .indexAddr 33 (.tmp 33) (.tmp 35), none, false, [], false⟩,
 ⟨some 39, .load 25 (.tmp 38), none, false, [], false⟩,
 ⟨some 9, .alloc 25, none, false, [], false⟩,
 ⟨some 8, .assign (.tmp 37), none, false, [], false⟩,
 ⟨none, .store 25 (.tmp 9) (.tmp 39), none, false, [], false⟩])
 (.seq (.reg false [⟨some 40, .move (.tmp 5), none, false, [], false⟩,
 ⟨some 41, .move (.tmp 8), none, false, [], false⟩,
 ⟨some 42, .indexAddr 56 (.tmp 40) (.tmp 41), none, false, [], false⟩,
 ⟨some 43, .load 4 (.tmp 42), none, false, [], false⟩])
 (.cond (.tmp 43)
 (.seq (.reg false [⟨some 44, .load 22 (.tmp 7), none, false, [], false⟩,
 ⟨some 45, .move (.tmp 8), none, false, [], false⟩,
 ⟨some 46, .fieldAddr 36 (.tmp 6) 1, none, false, [], false⟩,
 ⟨some 47, .load 33 (.tmp 46), none, false, [], false⟩,
 ⟨some 48, .call ⟨.builtin .len, #[.tmp 47], #[33]⟩, none, false, [], false⟩,
 ⟨some 49, .indexAddr 22 (.tmp 44) (.tmp 45), none, false, [], false⟩,
 ⟨none, .store 3 (.tmp 49) (.tmp 48), none, false, [], false⟩])
 (.reg true [⟨some 52, .load 25 (.tmp 9), none, false, [], false⟩,
 ⟨some 53, .call ⟨.value (.func 124), #[.tmp 52], #[25]⟩, none, true, [true, false, false, true, true, true], false⟩,
 ⟨some 54, .buildSlice 33 1 #[(0, .tmp 53)], none, false, [], false⟩,
 ⟨some 50, .fieldAddr 36 (.tmp 6) 1, none, false, [], false⟩,
 ⟨some 51, .load 33 (.tmp 50), none, false, [], true⟩,
 ⟨some 55, .call ⟨.builtin .append, #[.tmp 51, .tmp 54], #[33, 33]⟩, none, false, [true, true], false⟩,
 ⟨some 56, .fieldAddr 36 (.tmp 6) 1, none, false, [], false⟩,
 ⟨none, .store 33 (.tmp 56) (.tmp 55), none, false, [], false⟩]))
 .skip))))
 (.reg false [⟨some 57, .binOp .add 3 (.tmp 35) (.const (.int .i64 1)) 3, none, false, [], false⟩,
 ⟨some 35, .move (.tmp 57), none, false, [], false⟩])))))))
 (.seq (.seq
 (.reg false [⟨some 58, .fieldAddr 36 (.tmp 6) 1, none, false, [], false⟩,
 ⟨some 59, .load 33 (.tmp 58), none, false, [], false⟩,
 ⟨some 60, .call ⟨.builtin .len, #[.tmp 59], #[33]⟩, none, false, [], false⟩,
 ⟨some 61, .move (.const (.int .i64 0)), none, false, [], false⟩])
 (.block 2
 (.loop (.seq (.reg false [⟨some 62, .binOp .lss 3 (.tmp 61) (.tmp 60) 3, none, false, [], false⟩])
 (.seq (.cond (.tmp 62)
 .skip
 (.exit 2))
 (.seq (.block 3
 (.seq (.reg false [⟨some 63, .indexAddr 33 (.tmp 59) (.tmp 61), none, false, [], false⟩,
 ⟨some 64, .load 25 (.tmp 63), none, false, [], false⟩,
 ⟨some 11, .alloc 25, none, false, [], false⟩,
 ⟨none, .store 25 (.tmp 11) (.tmp 64), none, false, [], false⟩])
 (.seq (.reg false [⟨some 65, .load 25 (.tmp 11), none, false, [], false⟩,
 ⟨some 66, .call ⟨.value (.func 115), #[.tmp 65], #[25]⟩, none, false, [], false⟩])
 (.block 4
 (.rfn (.tmp 66) [67]
 (.reg false [⟨some 12, .assign (.tmp 67), none, false, [], false⟩])
 (.block 5
 (.reg true [⟨some 68, .move (.tmp 12), none, false, [], false⟩,
 ⟨some 69, .load 22 (.tmp 7), none, false, [], false⟩,
 ⟨some 70, .move (.tmp 12), none, false, [], false⟩,
 ⟨some 71, .nilCheck (.tmp 70), none, false, [], false⟩,
 ⟨some 72, .fieldAddr 46 (.tmp 71) 5, none, false, [], false⟩,
 ⟨some 73, .load 3 (.tmp 72), none, false, [], false⟩,
 ⟨some 74, .indexAddr 22 (.tmp 69) (.tmp 73), none, false, [], false⟩,
 ⟨some 75, .load 3 (.tmp 74), none, false, [], false⟩,
 ⟨some 76, .nilCheck (.tmp 68), none, false, [], false⟩,
 ⟨some 77, .fieldAddr 46 (.tmp 76) 5, none, false, [], false⟩,
 ⟨none, .store 3 (.tmp 77) (.tmp 75), none, false, [], false⟩])))))))
 (.reg false [⟨some 78, .binOp .add 3 (.tmp 61) (.const (.int .i64 1)) 3, none, false, [], false⟩,
 ⟨some 61, .move (.tmp 78), none, false, [], false⟩])))))))
 (.seq (.reg false [⟨some 79, .load 36 (.tmp 6), none, false, [], false⟩,
 ⟨none, .store 36 (.tmp 2) (.tmp 79), none, false, [], false⟩])
 .ret)))))))))
noncomputable def fi69 : FI := ⟨c69, 80, [.cell 2 36], .plain⟩
noncomputable def c70 : XC :=
 (.seq (.reg false [⟨some 1, .box 36 (.tmp 0), none, false, [], false⟩,
 ⟨some 2, .alloc 36, none, false, [], false⟩])
 (.seq (.reg false [⟨some 12, .load 36 (.tmp 1), none, false, [], false⟩,
 ⟨some 13, .call ⟨.value (.func 125), #[.tmp 12], #[36]⟩, none, false, [], false⟩,
 ⟨some 3, .assign (.tmp 13), none, false, [], false⟩])
 (.seq (.reg false [⟨some 14, .move (.tmp 3), none, false, [], false⟩,
 ⟨some 15, .call ⟨.builtin .len, #[.tmp 14], #[56]⟩, none, false, [], false⟩,
 ⟨some 16, .makeSlice 22 (.tmp 15) (.tmp 15), none, false, [], false⟩,
 ⟨some 4, .assign (.tmp 16), none, false, [], false⟩])
 (.seq (.reg false [⟨some 5, .assign (.const (.int .i64 0)), none, false, [], false⟩])
 (.seq (.seq
 (.reg false [⟨some 6, .assign (.const (.int .i64 0)), none, false, [], false⟩])
 (.block 0
 (.loop (.seq (.seq
 (.reg false [⟨some 17, .move (.tmp 6), none, false, [], false⟩,
 ⟨some 18, .move (.tmp 3), none, false, [], false⟩,
 ⟨some 19, .call ⟨.builtin .len, #[.tmp 18], #[56]⟩, none, false, [], false⟩,
 ⟨some 20, .binOp .lss 3 (.tmp 17) (.tmp 19) 3, none, false, [], false⟩])
 (.cond (.tmp 20)
 .skip
 (.exit 0)))
 (.seq (.block 1
 (.seq (.reg false [⟨some 23, .move (.tmp 4), none, false, [], false⟩,
 ⟨some 24, .move (.tmp 6), none, false, [], false⟩,
 ⟨some 25, .move (.tmp 5), none, false, [], false⟩,
 ⟨some 26, .indexAddr 22 (.tmp 23) (.tmp 24), none, false, [], false⟩,
 ⟨none, .store 3 (.tmp 26) (.tmp 25), none, false, [], false⟩])
 (.seq (.reg false [⟨some 27, .move (.tmp 3), none, false, [], false⟩,
 ⟨some 28, .move (.tmp 6), none, false, [], false⟩,
 ⟨some 29, .indexAddr 56 (.tmp 27) (.tmp 28), none, false, [], false⟩,
 ⟨some 30, .load 4 (.tmp 29), none, false, [], false⟩])
 (.cond (.tmp 30)
 (.reg false [⟨some 31, .move (.tmp 5), none, false, [], false⟩,
 ⟨some 32, .binOp .add 3 (.tmp 31) (.const (.int .i64 1)) 3, none, false, [], false⟩,
 ⟨some 5, .assign (.tmp 32), none, false, [], false⟩])
 .skip))))
 (.reg false [⟨some 21, .move (.tmp 6), none, false, [], false⟩,
 ⟨some 22, .binOp .add 3 (.tmp 21) (.const (.int .i64 1)) 3, none, false, [], false⟩,
 ⟨some 6, .assign (.tmp 22), none, false, [], false⟩]))))))
 (.seq (.reg false [⟨some 33, .fieldAddr 36 (.tmp 1) 0, none, false, [], false⟩,
 ⟨some 34, .load 34 (.tmp 33), none, false, [], false⟩,
 ⟨some 35, .call ⟨.value (.func 118), #[.tmp 34], #[34]⟩, none, false, [], false⟩,
 ⟨some 36, .build 36 #[(0, .tmp 35)], none, false, [], false⟩,
 ⟨some 7, .alloc 36, none, false, [], false⟩,
 ⟨none, .store 36 (.tmp 7) (.tmp 36), none, false, [], false⟩])
 (.seq (.seq
 (.reg false [⟨some 8, .assign (.const (.int .i64 0)), none, false, [], false⟩])
 (.block 2
 (.loop (.seq (.seq
 (.reg false [⟨some 37, .move (.tmp 8), none, false, [], false⟩,
 ⟨some 38, .move (.tmp 3), none, false, [], false⟩,
 ⟨some 39, .call ⟨.builtin .len, #[.tmp 38], #[56]⟩, none, false, [], false⟩,
 ⟨some 40, .binOp .lss 3 (.tmp 37) (.tmp 39) 3, none, false, [], false⟩])
 (.cond (.tmp 40)
 .skip
 (.exit 2)))
 (.seq (.block 3
 (.seq (.seq
 (.reg false [⟨some 43, .move (.tmp 3), none, false, [], false⟩,
 ⟨some 44, .move (.tmp 8), none, false, [], false⟩,
 ⟨some 45, .indexAddr 56 (.tmp 43) (.tmp 44), none, false, [], false⟩,
 ⟨some 46, .load 4 (.tmp 45), none, false, [], false⟩,
 ⟨some 47, .unOp .not 4 (.tmp 46), none, false, [], false⟩])
 (.cond (.tmp 47)
 (.exit 3)
 .skip))
 (.seq (.reg false [⟨some 48, .fieldAddr 36 (.tmp 1) 1, none, false, [], false⟩,
 ⟨some 49, .load 33 (.tmp 48), none, false, [], false⟩,
 ⟨some 50, .move (.tmp 8), none, false, [], false⟩,
 ⟨some 51, .indexAddr 33 (.tmp 49) (.tmp 50), none, false, [], false⟩,
 ⟨some 52, .load 25 (.tmp 51), none, false, [], false⟩,
 ⟨some 53, .call ⟨.value (.func 56), #[.tmp 52], #[25]⟩, none, false, [], false⟩,
 ⟨some 9, .alloc 25, none, false, [], false⟩,
 ⟨none, .store 25 (.tmp 9) (.tmp 53), none, false, [], false⟩])
 (.seq (.seq
 (.reg false [⟨some 10, .assign (.const (.int .i64 0)), none, false, [], false⟩])
 (.block 4
 (.loop (.seq (.seq
 (.reg false [⟨some 54, .move (.tmp 10), none, false, [], false⟩,
 ⟨some 55, .fieldAddr 25 (.tmp 9) 4, none, false, [], false⟩,
 ⟨some 56, .load 23 (.tmp 55), none, false, [], false⟩,
 ⟨some 57, .call ⟨.builtin .len, #[.tmp 56], #[23]⟩, none, false, [], false⟩,
 ⟨some 58, .binOp .lss 3 (.tmp 54) (.tmp 57) 3, none, false, [], false⟩])
 (.cond (.tmp 58)
 .skip
 (.exit 4)))
 (.seq (.block 5
 (.seq (.reg false [⟨some 11, .assign (.const (.int .i64 0)), none, false, [], false⟩])
 (.block 6
 (.loop (.seq (.seq
 (.reg false [⟨some 61, .move (.tmp 11), none, false, [], false⟩,
 ⟨some 62, .fieldAddr 25 (.tmp 9) 4, none, false, [], false⟩,
 ⟨some 63, .load 23 (.tmp 62), none, false, [], false⟩,
 ⟨some 64, .move (.tmp 10), none, false, [], false⟩,
 ⟨some 65, .indexAddr 23 (.tmp 63) (.tmp 64), none, false, [], false⟩,
 ⟨some 66, .fieldAddr 49 (.tmp 65) 0, none, false, [], false⟩,
 ⟨some 67, .load 47 (.tmp 66), none, false, [], false⟩,
 ⟨some 68, .call ⟨.builtin .len, #[.tmp 67], #[47]⟩, none, false, [], false⟩,
 ⟨some 69, .binOp .lss 3 (.tmp 61) (.tmp 68) 3, none, false, [], false⟩])
 (.cond (.tmp 69)
 .skip
 (.exit 6)))
 (.seq (.block 7
 (.seq (.reg false [⟨some 72, .fieldAddr 25 (.tmp 9) 4, none, false, [], false⟩,
 ⟨some 73, .load 23 (.tmp 72), none, false, [], false⟩,
 ⟨some 74, .move (.tmp 10), none, false, [], false⟩,
 ⟨some 75, .indexAddr 23 (.tmp 73) (.tmp 74), none, false, [], false⟩,
 ⟨some 76, .fieldAddr 49 (.tmp 75) 0, none, false, [], false⟩,
 ⟨some 77, .load 47 (.tmp 76), none, false, [], false⟩,
 ⟨some 78, .move (.tmp 11), none, false, [], false⟩,
 ⟨some 79, .indexAddr 47 (.tmp 77) (.tmp 78), none, false, [], false⟩,
 ⟨some 80, .fieldAddr 46 (.tmp 79) 0, none, false, [], false⟩,
 ⟨some 81, .load 3 (.tmp 80), none, false, [], false⟩,
 ⟨some 82, .binOp .eql 3 (.tmp 81) (.const (.int .i64 9)) 3, none, false, [], false⟩])
 (.cond (.tmp 82)
 (.reg true [⟨some 83, .fieldAddr 25 (.tmp 9) 4, none, false, [], false⟩,
 ⟨some 84, .load 23 (.tmp 83), none, false, [], false⟩,
 ⟨some 85, .move (.tmp 10), none, false, [], false⟩,
 ⟨some 86, .indexAddr 23 (.tmp 84) (.tmp 85), none, false, [], false⟩,
 ⟨some 87, .fieldAddr 49 (.tmp 86) 0, none, false, [], false⟩,
 ⟨some 88, .load 47 (.tmp 87), none, false, [], false⟩,
 ⟨some 89, .move (.tmp 11), none, false, [], false⟩,
 ⟨some 90, .move (.tmp 4), none, false, [], false⟩,
 ⟨some 91, .fieldAddr 25 (.tmp 9) 4, none, false, [], false⟩,
 ⟨some 92, .load 23 (.tmp 91), none, false, [], false⟩,
 ⟨some 93, .move (.tmp 10), none, false, [], false⟩,
 ⟨some 94, .indexAddr 23 (.tmp 92) (.tmp 93), none, false, [], false⟩,
 ⟨some 95, .fieldAddr 49 (.tmp 94) 0, none, false, [], false⟩,
 ⟨some 96, .load 47 (.tmp 95), none, false, [], false⟩,
 ⟨some 97, .move (.tmp 11), none, false, [], false⟩,
 ⟨some 98, .indexAddr 47 (.tmp 96) (.tmp 97), none, false, [], false⟩,
 ⟨some 99, .fieldAddr 46 (.tmp 98) 5, none, false, [], false⟩,
 ⟨some 100, .load 3 (.tmp 99), none, false, [], false⟩,
 ⟨some 101, .indexAddr 22 (.tmp 90) (.tmp 100), none, false, [], false⟩,
 ⟨some 102, .load 3 (.tmp 101), none, false, [], false⟩,
 ⟨some 103, .indexAddr 47 (.tmp 88) (.tmp 89), none, false, [], false⟩,
 ⟨some 104, .fieldAddr 46 (.tmp 103) 5, none, false, [], false⟩,
 ⟨none, .store 3 (.tmp 104) (.tmp 102), none, false, [], false⟩])
 .skip)))
 (.reg false [⟨some 70, .move (.tmp 11), none, false, [], false⟩,
 ⟨some 71, .binOp .add 3 (.tmp 70) (.const (.int .i64 1)) 3, none, false, [], false⟩,
 ⟨some 11, .assign (.tmp 71), none, false, [], false⟩])))))))
 (.reg false [⟨some 59, .move (.tmp 10), none, false, [], false⟩,
 ⟨some 60, .binOp .add 3 (.tmp 59) (.const (.int .i64 1)) 3, none, false, [], false⟩,
 ⟨some 10, .assign (.tmp 60), none, false, [], false⟩]))))))
 (.reg false [⟨some 105, .fieldAddr 36 (.tmp 7) 1, none, false, [], false⟩,
 ⟨some 106, .load 33 (.tmp 105), none, false, [], false⟩,
 ⟨some 107, .load 25 (.tmp 9), none, false, [], false⟩,
 ⟨some 108, .buildSlice 33 1 #[(0, .tmp 107)], none, false, [], false⟩,
 ⟨some 109, .call ⟨.builtin .append, #[.tmp 106, .tmp 108], #[33, 33]⟩, none, false, [], false⟩,
 ⟨some 110, .fieldAddr 36 (.tmp 7) 1, none, false, [], false⟩,
 ⟨none, .store 33 (.tmp 110) (.tmp 109), none, false, [], false⟩])))))
 (.reg false [⟨some 41, .move (.tmp 8), none, false, [], false⟩,
 ⟨some 42, .binOp .add 3 (.tmp 41) (.const (.int .i64 1)) 3, none, false, [], false⟩,
 ⟨some 8, .assign (.tmp 42), none, false, [], false⟩]))))))
 (.seq (.reg false [⟨some 111, .load 36 (.tmp 7), none, false, [], false⟩,
 ⟨none, .store 36 (.tmp 2) (.tmp 111), none, false, [], false⟩])
 .ret))))))))
noncomputable def fi70 : FI := ⟨c70, 112, [.cell 2 36], .plain⟩
noncomputable def c71 : XC :=
 (.seq (.reg false [⟨some 1, .box 36 (.tmp 0), none, false, [], false⟩])
 (.seq (.seq
 (.reg false [⟨some 2, .assign (.const (.int .i64 0)), none, false, [], false⟩])
 (.block 0
 (.loop (.seq (.seq
 (.reg false [⟨some 3, .move (.tmp 2), none, false, [], false⟩,
 ⟨some 4, .fieldAddr 36 (.tmp 1) 1, none, false, [], false⟩,
 ⟨some 5, .load 33 (.tmp 4), none, false, [], false⟩,
 ⟨some 6, .call ⟨.builtin .len, #[.tmp 5], #[33]⟩, none, false, [], false⟩,
 ⟨some 7, .binOp .lss 3 (.tmp 3) (.tmp 6) 3, none, false, [], false⟩])
 (.cond (.tmp 7)
 .skip
 (.exit 0)))
 (.seq (.block 1
 (.reg false [⟨some 10, .fieldAddr 36 (.tmp 1) 1, none, false, [], false⟩,
 ⟨some 11, .load 33 (.tmp 10), none, false, [], false⟩,
 ⟨some 12, .move (.tmp 2), none, false, [], false⟩,
 ⟨some 13, .indexAddr 33 (.tmp 11) (.tmp 12), none, false, [], false⟩,
 ⟨some 14, .load 25 (.tmp 13), none, false, [], false⟩,
 ⟨some 15, .call ⟨.value (.func 58), #[.tmp 14], #[25]⟩, none, false, [], false⟩]))
 (.reg false [⟨some 8, .move (.tmp 2), none, false, [], false⟩,
 ⟨some 9, .binOp .add 3 (.tmp 8) (.const (.int .i64 1)) 3, none, false, [], false⟩,
 ⟨some 2, .assign (.tmp 9), none, false, [], false⟩]))))))
 (.seq (.reg false [⟨some 16, .fieldAddr 36 (.tmp 1) 0, none, false, [], false⟩,
 ⟨some 17, .load 34 (.tmp 16), none, false, [], false⟩,
 ⟨some 18, .call ⟨.value (.func 126), #[.tmp 17], #[34]⟩, none, false, [], false⟩])
 (.reg false [⟨some 19, .fieldAddr 36 (.tmp 1) 1, none, false, [], false⟩,
 ⟨some 20, .load 33 (.tmp 19), none, false, [], false⟩,
 ⟨some 21, .call ⟨.value (.func 127), #[.tmp 20], #[33]⟩, none, false, [], false⟩]))))
noncomputable def fi71 : FI := ⟨c71, 22, [], .plain⟩
noncomputable def c80 : XC :=
 (.seq (.reg false [⟨some 1, .box 46 (.tmp 0), none, false, [], false⟩,
 ⟨some 2, .assign (.const (.int .i64 0)), none, false, [], false⟩])
 (.seq (.seq
 (.reg false [⟨some 3, .fieldAddr 46 (.tmp 1) 0, none, false, [], false⟩,
 ⟨some 4, .load 3 (.tmp 3), none, false, [], false⟩])
 (.block 0
 (.seq (.seq
 (.reg false [⟨some 6, .binOp .eql 3 (.tmp 4) (.const (.int .i64 1)) 3, none, false, [], false⟩,
 ⟨some 5, .assign (.tmp 6), none, false, [], false⟩])
 (.cond (.tmp 5)
 .skip
 (.seq (.reg false [⟨some 7, .binOp .eql 3 (.tmp 4) (.const (.int .i64 2)) 3, none, false, [], false⟩,
 ⟨some 5, .assign (.tmp 7), none, false, [], false⟩])
 (.cond (.tmp 5)
 .skip
 (.seq (.reg false [⟨some 8, .binOp .eql 3 (.tmp 4) (.const (.int .i64 3)) 3, none, false, [], false⟩,
 ⟨some 5, .assign (.tmp 8), none, false, [], false⟩])
 (.cond (.tmp 5)
 .skip
 (.seq (.reg false [⟨some 9, .binOp .eql 3 (.tmp 4) (.const (.int .i64 4)) 3, none, false, [], false⟩,
 ⟨some 5, .assign (.tmp 9), none, false, [], false⟩])
 (.cond (.tmp 5)
 .skip
 (.seq (.reg false [⟨some 10, .binOp .eql 3 (.tmp 4) (.const (.int .i64 5)) 3, none, false, [], false⟩,
 ⟨some 5, .assign (.tmp 10), none, false, [], false⟩])
 (.cond (.tmp 5)
 .skip
 (.seq (.reg false [⟨some 11, .binOp .eql 3 (.tmp 4) (.const (.int .i64 7)) 3, none, false, [], false⟩,
 ⟨some 5, .assign (.tmp 11), none, false, [], false⟩])
 (.cond (.tmp 5)
 .skip
 (.reg false [⟨some 12, .binOp .eql 3 (.tmp 4) (.const (.int .i64 10)) 3, none, false, [], false⟩,
 ⟨some 5, .assign (.tmp 12), none, false, [], false⟩])))))))))))))
 (.cond (.tmp 5)
 (.seq (.reg false [⟨some 13, .fieldAddr 46 (.tmp 1) 2, none, false, [], false⟩,
 ⟨some 14, .load 3 (.tmp 13), none, false, [], false⟩,
 ⟨some 2, .assign (.tmp 14), none, false, [], false⟩])
 .ret)
 (.seq (.reg false [⟨some 16, .binOp .eql 3 (.tmp 4) (.const (.int .i64 9)) 3, none, false, [], false⟩,
 ⟨some 15, .assign (.tmp 16), none, false, [], false⟩])
 (.cond (.tmp 15)
 (.seq (.reg false [⟨some 17, .fieldAddr 46 (.tmp 1) 2, none, false, [], false⟩,
 ⟨some 18, .load 3 (.tmp 17), none, false, [], false⟩,
 ⟨some 19, .call ⟨.builtin .max, #[.tmp 18, .const (.int .i64 (-1))], #[3, 3]⟩, none, false, [], false⟩,
 ⟨some 2, .assign (.tmp 19), none, false, [], false⟩])
 .ret)
 .skip))))))
 (.seq (.reg false [⟨some 2, .assign (.const (.int .i64 (-1))), none, false, [], false⟩])
 .ret)))
noncomputable def fi80 : FI := ⟨c80, 20, [.tmp 2], .plain⟩
noncomputable def c86 : XC :=
 (.seq (.reg false [⟨some 2, .assign (.const (.bool false)), none, false, [], false⟩])
 (.seq (.reg false [⟨some 3, .move (.tmp 0), none, false, [], false⟩,
 ⟨some 4, .binOp .eql 3 (.tmp 3) (.const (.int .i64 1)) 3, none, false, [], false⟩,
 ⟨some 5, .move (.tmp 4), none, false, [], false⟩,
 ⟨some 6, .move (.tmp 0), some (some 5, false), false, [], false⟩,
 ⟨some 7, .binOp .eql 3 (.tmp 6) (.const (.int .i64 2)) 3, some (some 5, false), false, [], false⟩,
 ⟨some 8, .pick (.tmp 5) (.const (.bool true)) (.tmp 7), none, false, [], false⟩,
 ⟨some 2, .assign (.tmp 8), none, false, [], false⟩])
 .ret))
noncomputable def fi86 : FI := ⟨c86, 9, [.tmp 2], .plain⟩
noncomputable def c87 : XC :=
 (.seq (.reg false [⟨some 1, .box 107 (.tmp 0), none, false, [], false⟩,
 ⟨some 2, .assign (.const (.int .i64 0)), none, false, [], false⟩])
 (.seq (.reg false [⟨some 10, .fieldAddr 107 (.tmp 1) 1, none, false, [], false⟩,
 ⟨some 11, .load 25 (.tmp 10), none, false, [], false⟩,
 ⟨some 3, .alloc 25, none, false, [], false⟩,
 ⟨none, .store 25 (.tmp 3) (.tmp 11), none, false, [], false⟩])
 (.seq (.block 0
 (.seq (.reg false [⟨some 13, .fieldAddr 25 (.tmp 3) 4, none, false, [], false⟩,
 ⟨some 14, .load 23 (.tmp 13), none, false, [], false⟩,
 ⟨some 15, .call ⟨.builtin .len, #[.tmp 14], #[23]⟩, none, false, [], false⟩,
 ⟨some 16, .binOp .lss 3 (.tmp 15) (.const (.int .i64 1)) 3, none, false, [], false⟩,
 ⟨some 17, .move (.tmp 16), none, false, [], false⟩,
 ⟨some 18, .fieldAddr 25 (.tmp 3) 4, some (some 17, false), false, [], false⟩,
 ⟨some 19, .load 23 (.tmp 18), some (some 17, false), false, [], false⟩,
 ⟨some 20, .call ⟨.builtin .len, #[.tmp 19], #[23]⟩, some (some 17, false), false, [], false⟩,
 ⟨some 21, .binOp .gtr 3 (.tmp 20) (.const (.int .i64 400)) 3, some (some 17, false), false, [], false⟩,
 ⟨some 22, .pick (.tmp 17) (.const (.bool true)) (.tmp 21), none, false, [], false⟩,
 ⟨some 23, .move (.tmp 22), none, false, [], false⟩,
 ⟨some 24, .fieldAddr 25 (.tmp 3) 3, some (some 23, false), false, [], false⟩,
 ⟨some 25, .load 22 (.tmp 24), some (some 23, false), false, [], false⟩,
 ⟨some 26, .call ⟨.builtin .len, #[.tmp 25], #[22]⟩, some (some 23, false), false, [], false⟩,
 ⟨some 27, .binOp .gtr 3 (.tmp 26) (.const (.int .i64 4096)) 3, some (some 23, false), false, [], false⟩,
 ⟨some 28, .pick (.tmp 23) (.const (.bool true)) (.tmp 27), none, false, [], false⟩,
 ⟨some 12, .assign (.tmp 28), none, false, [], false⟩])
 (.cond (.tmp 12)
 (.seq (.reg false [⟨some 2, .assign (.const (.int .i64 9)), none, false, [], false⟩])
 .ret)
 (.seq (.reg false [⟨some 30, .fieldAddr 25 (.tmp 3) 2, none, false, [], false⟩,
 ⟨some 31, .load 3 (.tmp 30), none, false, [], false⟩,
 ⟨some 32, .binOp .lss 3 (.tmp 31) (.const (.int .i64 0)) 3, none, false, [], false⟩,
 ⟨some 33, .move (.tmp 32), none, false, [], false⟩,
 ⟨some 34, .fieldAddr 25 (.tmp 3) 2, some (some 33, false), false, [], false⟩,
 ⟨some 35, .load 3 (.tmp 34), some (some 33, false), false, [], false⟩,
 ⟨some 36, .fieldAddr 25 (.tmp 3) 3, some (some 33, false), false, [], false⟩,
 ⟨some 37, .load 22 (.tmp 36), some (some 33, false), false, [], false⟩,
 ⟨some 38, .call ⟨.builtin .len, #[.tmp 37], #[22]⟩, some (some 33, false), false, [], false⟩,
 ⟨some 39, .binOp .gtr 3 (.tmp 35) (.tmp 38) 3, some (some 33, false), false, [], false⟩,
 ⟨some 40, .pick (.tmp 33) (.const (.bool true)) (.tmp 39), none, false, [], false⟩,
 ⟨some 29, .assign (.tmp 40), none, false, [], false⟩])
 (.cond (.tmp 29)
 (.seq (.reg false [⟨some 2, .assign (.const (.int .i64 11)), none, false, [], false⟩])
 .ret)
 (.seq (.reg false [⟨some 42, .fieldAddr 25 (.tmp 3) 1, none, false, [], false⟩,
 ⟨some 43, .load 3 (.tmp 42), none, false, [], false⟩,
 ⟨some 44, .binOp .lss 3 (.tmp 43) (.const (.int .i64 0)) 3, none, false, [], false⟩,
 ⟨some 45, .move (.tmp 44), none, false, [], false⟩,
 ⟨some 46, .fieldAddr 25 (.tmp 3) 1, some (some 45, false), false, [], false⟩,
 ⟨some 47, .load 3 (.tmp 46), some (some 45, false), false, [], false⟩,
 ⟨some 48, .binOp .gtr 3 (.tmp 47) (.const (.int .i64 2)) 3, some (some 45, false), false, [], false⟩,
 ⟨some 49, .pick (.tmp 45) (.const (.bool true)) (.tmp 48), none, false, [], false⟩,
 ⟨some 50, .move (.tmp 49), none, false, [], false⟩,
 ⟨some 51, .fieldAddr 25 (.tmp 3) 3, some (some 50, false), false, [], false⟩,
 ⟨some 52, .load 22 (.tmp 51), some (some 50, false), false, [], false⟩,
 ⟨some 53, .call ⟨.value (.func 136), #[.tmp 52, .func 137], #[22, 99]⟩, some (some 50, false), false, [], false⟩,
 ⟨some 54, .pick (.tmp 50) (.const (.bool true)) (.tmp 53), none, false, [], false⟩,
 ⟨some 41, .assign (.tmp 54), none, false, [], false⟩])
 (.cond (.tmp 41)
 (.seq (.reg false [⟨some 2, .assign (.const (.int .i64 6)), none, false, [], false⟩])
 .ret)
 .skip)))))))
 (.seq (.seq
 (.reg false [⟨some 55, .fieldAddr 25 (.tmp 3) 4, none, false, [], false⟩,
 ⟨some 56, .load 23 (.tmp 55), none, false, [], false⟩,
 ⟨some 57, .call ⟨.builtin .len, #[.tmp 56], #[23]⟩, none, false, [], false⟩,
 ⟨some 58, .move (.const (.int .i64 0)), none, false, [], false⟩])
 (.block 1
 (.loop (.seq (.reg false [⟨some 59, .binOp .lss 3 (.tmp 58) (.tmp 57) 3, none, false, [], false⟩])
 (.seq (.cond (.tmp 59)
 .skip
 (.exit 1))
 (.seq (.block 2
 (.seq (.reg false [⟨some 60, .indexAddr 23 (.tmp 56) (.tmp 58), none, false, [], false⟩,
 ⟨some 61, .load 49 (.tmp 60), none, false, [], false⟩,
 ⟨some 5, .alloc 49, none, false, [], false⟩,
 ⟨none, .store 49 (.tmp 5) (.tmp 61), none, false, [], false⟩])
 (.seq (.seq
 (.reg false [⟨some 62, .fieldAddr 49 (.tmp 5) 0, none, false, [], false⟩,
 ⟨some 63, .load 47 (.tmp 62), none, false, [], false⟩,
 ⟨some 64, .call ⟨.builtin .len, #[.tmp 63], #[47]⟩, none, false, [], false⟩,
 ⟨some 65, .move (.const (.int .i64 0)), none, false, [], false⟩])
 (.block 3
 (.loop (.seq (.reg false [⟨some 66, .binOp .lss 3 (.tmp 65) (.tmp 64) 3, none, false, [], false⟩])
 (.seq (.cond (.tmp 66)
 .skip
 (.exit 3))
 (.seq (.block 4
 (.seq (.reg false [⟨some 67, .indexAddr 47 (.tmp 63) (.tmp 65), none, false, [], false⟩,
 ⟨some 68, .load 46 (.tmp 67), none, false, [], false⟩,
 ⟨some 7, .alloc 46, none, false, [], false⟩,
 ⟨none, .store 46 (.tmp 7) (.tmp 68), none, false, [], false⟩])
 (.seq (.reg false [⟨some 69, .load 107 (.tmp 1), none, false, [], false⟩,
 ⟨some 70, .load 46 (.tmp 7), none, false, [], false⟩,
 ⟨some 71, .call ⟨.value (.func 138), #[.tmp 69, .tmp 70], #[107, 46]⟩, none, false, [], false⟩,
 ⟨some 8, .assign (.tmp 71), none, false, [], false⟩])
 (.seq (.reg false [⟨some 72, .move (.tmp 8), none, false, [], false⟩,
 ⟨some 73, .binOp .neq 62 (.tmp 72) (.const (.int .i64 0)) 62, none, false, [], false⟩])
 (.cond (.tmp 73)
 (.seq (.reg false [⟨some 74, .move (.tmp 8), none, false, [], false⟩,
 ⟨some 2, .assign (.tmp 74), none, false, [], false⟩])
 .ret)
 .skip)))))
 (.reg false [⟨some 75, .binOp .add 3 (.tmp 65) (.const (.int .i64 1)) 3, none, false, [], false⟩,
 ⟨some 65, .move (.tmp 75), none, false, [], false⟩])))))))
 (.seq (.reg false [⟨some 76, .load 107 (.tmp 1), none, false, [], false⟩,
 ⟨some 77, .fieldAddr 49 (.tmp 5) 1, none, false, [], false⟩,
 ⟨some 78, .load 29 (.tmp 77), none, false, [], false⟩,
 ⟨some 79, .call ⟨.value (.func 139), #[.tmp 76, .tmp 78], #[107, 29]⟩, none, false, [], false⟩,
 ⟨some 9, .assign (.tmp 79), none, false, [], false⟩])
 (.seq (.reg false [⟨some 80, .move (.tmp 9), none, false, [], false⟩,
 ⟨some 81, .binOp .neq 62 (.tmp 80) (.const (.int .i64 0)) 62, none, false, [], false⟩])
 (.cond (.tmp 81)
 (.seq (.reg false [⟨some 82, .move (.tmp 9), none, false, [], false⟩,
 ⟨some 2, .assign (.tmp 82), none, false, [], false⟩])
 .ret)
 .skip))))))
 (.reg false [⟨some 83, .binOp .add 3 (.tmp 58) (.const (.int .i64 1)) 3, none, false, [], false⟩,
 ⟨some 58, .move (.tmp 83), none, false, [], false⟩])))))))
 (.seq (.reg false [⟨some 2, .assign (.const (.int .i64 0)), none, false, [], false⟩])
 .ret)))))
noncomputable def fi87 : FI := ⟨c87, 84, [.tmp 2], .plain⟩
noncomputable def c88 : XC :=
 (.seq (.reg false [⟨some 1, .box 36 (.tmp 0), none, false, [], false⟩,
 ⟨some 2, .assign (.const (.int .i64 0)), none, false, [], false⟩])
 (.seq (.reg false [⟨some 3, .fieldAddr 36 (.tmp 1) 1, none, false, [], false⟩,
 ⟨some 4, .load 33 (.tmp 3), none, false, [], false⟩,
 ⟨some 5, .call ⟨.value (.func 116), #[.tmp 4, .func 140], #[33, 135]⟩, none, false, [], false⟩,
 ⟨some 2, .assign (.tmp 5), none, false, [], false⟩])
 .ret))
noncomputable def fi88 : FI := ⟨c88, 6, [.tmp 2], .plain⟩
noncomputable def c93 : XC :=
 (.seq (.reg false [⟨some 2, .assign (.const (.slice none 0 0)), none, false, [], false⟩])
 (.seq (.reg false [⟨some 3, .assign (.const (.slice none 0 0)), none, false, [], false⟩])
 (.seq (.seq
 (.reg false [⟨some 4, .assign (.const (.int .i64 0)), none, false, [], false⟩])
 (.block 0
 (.loop (.seq (.seq
 (.reg false [⟨some 5, .move (.tmp 4), none, false, [], false⟩,
 ⟨some 6, .move (.tmp 0), none, false, [], false⟩,
 ⟨some 7, .call ⟨.builtin .len, #[.tmp 6], #[23]⟩, none, false, [], false⟩,
 ⟨some 8, .binOp .lss 3 (.tmp 5) (.tmp 7) 3, none, false, [], false⟩])
 (.cond (.tmp 8)
 .skip
 (.exit 0)))
 (.seq (.block 1
 (.reg true [⟨some 12, .move (.tmp 0), none, false, [], false⟩,
 ⟨some 13, .move (.tmp 4), none, false, [], false⟩,
 ⟨some 14, .indexAddr 23 (.tmp 12) (.tmp 13), none, false, [], false⟩,
 ⟨some 15, .fieldAddr 49 (.tmp 14) 0, none, false, [], false⟩,
 ⟨some 16, .load 47 (.tmp 15), none, false, [], false⟩,
 ⟨some 17, .call ⟨.value (.func 147), #[.tmp 16], #[47]⟩, none, true, [false, false, false, false, false, true, true, false, true, true], false⟩,
 ⟨some 18, .move (.tmp 0), none, false, [], false⟩,
 ⟨some 19, .move (.tmp 4), none, false, [], false⟩,
 ⟨some 20, .indexAddr 23 (.tmp 18) (.tmp 19), none, false, [], false⟩,
 ⟨some 21, .fieldAddr 49 (.tmp 20) 1, none, false, [], false⟩,
 ⟨some 22, .load 29 (.tmp 21), none, false, [], true⟩,
 ⟨some 23, .build 49 #[(0, .tmp 17), (1, .tmp 22)], none, false, [], false⟩,
 ⟨some 24, .buildSlice 23 1 #[(0, .tmp 23)], none, false, [], false⟩,
 ⟨some 11, .move (.tmp 3), none, false, [], false⟩,
 ⟨some 25, .call ⟨.builtin .append, #[.tmp 11, .tmp 24], #[23, 23]⟩, none, false, [true], false⟩,
 ⟨some 3, .assign (.tmp 25), none, false, [], false⟩]))
 (.reg false [⟨some 9, .move (.tmp 4), none, false, [], false⟩,
 ⟨some 10, .binOp .add 3 (.tmp 9) (.const (.int .i64 1)) 3, none, false, [], false⟩,
 ⟨some 4, .assign (.tmp 10), none, false, [], false⟩]))))))
 (.seq (.reg false [⟨some 26, .move (.tmp 3), none, false, [], false⟩,
 ⟨some 2, .assign (.tmp 26), none, false, [], false⟩])
 .ret))))
noncomputable def fi93 : FI := ⟨c93, 27, [.tmp 2], .plain⟩
noncomputable def c97 : XC :=
 (.seq (.reg false [⟨some 2, .assign (.const (.slice none 0 0)), none, false, [], false⟩])
 (.seq (.seq
 (.reg false [⟨some 3, .move (.tmp 0), none, false, [], false⟩,
 ⟨some 4, .binOp .eql 34 (.tmp 3) (.const (.slice none 0 0)) 34, none, false, [], false⟩])
 (.cond (.tmp 4)
 (.seq (.reg false [⟨some 2, .assign (.const (.slice none 0 0)), none, false, [], false⟩])
 .ret)
 .skip))
 (.seq (.reg false [⟨some 5, .buildSlice 34 0 #[], none, false, [], false⟩,
 ⟨some 6, .move (.tmp 0), none, false, [], false⟩,
 ⟨some 7, .call ⟨.builtin .append, #[.tmp 5, .tmp 6], #[34, 34]⟩, none, false, [], false⟩,
 ⟨some 2, .assign (.tmp 7), none, false, [], false⟩])
 .ret)))
noncomputable def fi97 : FI := ⟨c97, 8, [.tmp 2], .plain⟩
noncomputable def c100 : XC :=
 (.seq (.reg false [⟨some 4, .call ⟨.builtin .recover, #[], #[]⟩, none, false, [], false⟩,
 ⟨some 2, .assign (.tmp 4), none, false, [], false⟩])
 (.seq (.reg false [⟨some 5, .move (.tmp 2), none, false, [], false⟩,
 ⟨some 6, .binOp .neq 20 (.tmp 5) (.const .nilIface) 20, none, false, [], false⟩])
 (.cond (.tmp 6)
 (.seq (.reg false [⟨some 7, .move (.tmp 2), none, false, [], false⟩,
 ⟨some 8, .typeAssert (.tmp 7) 20 118 false, none, false, [], false⟩,
 ⟨some 3, .alloc 118, none, false, [], false⟩,
 ⟨none, .store 118 (.tmp 3) (.tmp 8), none, false, [], false⟩])
 (.reg true [⟨some 9, .load 114 (.tmp 0), none, false, [], false⟩,
 ⟨some 10, .nilCheck (.tmp 9), none, false, [], false⟩,
 ⟨some 11, .fieldAddr 116 (.tmp 10) 4, none, false, [], false⟩,
 ⟨some 12, .fieldAddr 66 (.tmp 11) 0, none, false, [], false⟩,
 ⟨some 13, .load 22 (.tmp 12), none, false, [], false⟩,
 ⟨some 14, .fieldAddr 118 (.tmp 3) 0, none, false, [], false⟩,
 ⟨some 15, .load 3 (.tmp 14), none, false, [], false⟩,
 ⟨some 16, .fieldAddr 118 (.tmp 3) 1, none, false, [], false⟩,
 ⟨some 17, .load 3 (.tmp 16), none, false, [], false⟩,
 ⟨some 18, .build 66 #[(0, .tmp 13), (1, .tmp 15), (2, .tmp 17)], none, false, [], false⟩,
 ⟨none, .store 66 (.tmp 1) (.tmp 18), none, false, [], false⟩]))
 .skip)))
noncomputable def fi100 : FI := ⟨c100, 19, [], .rcv 4 2 (.seq (.reg false [⟨some 5, .move (.tmp 2), none, false, [], false⟩,
 ⟨some 6, .binOp .neq 20 (.tmp 5) (.const .nilIface) 20, none, false, [], false⟩])
 (.cond (.tmp 6)
 (.seq (.reg false [⟨some 7, .move (.tmp 2), none, false, [], false⟩,
 ⟨some 8, .typeAssert (.tmp 7) 20 118 false, none, false, [], false⟩,
 ⟨some 3, .alloc 118, none, false, [], false⟩,
 ⟨none, .store 118 (.tmp 3) (.tmp 8), none, false, [], false⟩])
 (.reg true [⟨some 9, .load 114 (.tmp 0), none, false, [], false⟩,
 ⟨some 10, .nilCheck (.tmp 9), none, false, [], false⟩,
 ⟨some 11, .fieldAddr 116 (.tmp 10) 4, none, false, [], false⟩,
 ⟨some 12, .fieldAddr 66 (.tmp 11) 0, none, false, [], false⟩,
 ⟨some 13, .load 22 (.tmp 12), none, false, [], false⟩,
 ⟨some 14, .fieldAddr 118 (.tmp 3) 0, none, false, [], false⟩,
 ⟨some 15, .load 3 (.tmp 14), none, false, [], false⟩,
 ⟨some 16, .fieldAddr 118 (.tmp 3) 1, none, false, [], false⟩,
 ⟨some 17, .load 3 (.tmp 16), none, false, [], false⟩,
 ⟨some 18, .build 66 #[(0, .tmp 13), (1, .tmp 15), (2, .tmp 17)], none, false, [], false⟩,
 ⟨none, .store 66 (.tmp 1) (.tmp 18), none, false, [], false⟩]))
 .skip))⟩
noncomputable def c101 : XC :=
 (.seq (.reg false [⟨some 6, .assign (.const (.int .i64 0)), none, false, [], false⟩])
 (.seq (.seq
 (.reg false [⟨some 13, .move (.tmp 0), none, false, [], false⟩,
 ⟨some 14, .nilCheck (.tmp 13), none, false, [], false⟩,
 ⟨some 15, .fieldAddr 116 (.tmp 14) 5, none, false, [], false⟩,
 ⟨some 16, .load 3 (.tmp 15), none, false, [], false⟩,
 ⟨some 17, .binOp .geq 3 (.tmp 16) (.const (.int .i64 32)) 3, none, false, [], false⟩])
 (.cond (.tmp 17)
 (.reg false [⟨some 18, .call ⟨.value (.func 154), #[.const (.int .i64 4)], #[3]⟩, none, false, [], false⟩])
 .skip))
 (.seq (.reg false [⟨some 19, .move (.tmp 0), none, false, [], false⟩,
 ⟨some 20, .nilCheck (.tmp 19), none, false, [], false⟩,
 ⟨some 21, .fieldAddr 116 (.tmp 20) 5, none, false, [], false⟩,
 ⟨some 22, .load 3 (.tmp 21), none, false, [], false⟩,
 ⟨some 23, .binOp .add 3 (.tmp 22) (.const (.int .i64 1)) 3, none, false, [], false⟩,
 ⟨some 24, .nilCheck (.tmp 19), none, false, [], false⟩,
 ⟨some 25, .fieldAddr 116 (.tmp 24) 5, none, false, [], false⟩,
 ⟨none, .store 3 (.tmp 25) (.tmp 23), none, false, [], false⟩])
 (.seq (.reg false [⟨some 26, .move (.tmp 0), none, false, [], false⟩,
 ⟨some 27, .nilCheck (.tmp 26), none, false, [], false⟩,
 ⟨some 28, .fieldAddr 116 (.tmp 27) 0, none, false, [], false⟩,
 ⟨some 29, .fieldAddr 36 (.tmp 28) 1, none, false, [], false⟩,
 ⟨some 30, .load 33 (.tmp 29), none, false, [], false⟩,
 ⟨some 31, .move (.tmp 1), none, false, [], false⟩,
 ⟨some 32, .indexAddr 33 (.tmp 30) (.tmp 31), none, false, [], false⟩,
 ⟨some 33, .load 25 (.tmp 32), none, false, [], false⟩,
 ⟨some 7, .alloc 25, none, false, [], false⟩,
 ⟨none, .store 25 (.tmp 7) (.tmp 33), none, false, [], false⟩])
 (.seq (.reg false [⟨some 34, .fieldAddr 25 (.tmp 7) 3, none, false, [], false⟩,
 ⟨some 35, .load 22 (.tmp 34), none, false, [], false⟩,
 ⟨some 36, .call ⟨.builtin .len, #[.tmp 35], #[22]⟩, none, false, [], false⟩,
 ⟨some 37, .makeSlice 22 (.tmp 36) (.tmp 36), none, false, [], false⟩,
 ⟨some 8, .assign (.tmp 37), none, false, [], false⟩])
 (.seq (.reg false [⟨some 38, .move (.tmp 8), none, false, [], false⟩,
 ⟨some 39, .move (.tmp 2), none, false, [], false⟩,
 ⟨some 40, .call ⟨.builtin .copy, #[.tmp 38, .tmp 39], #[22, 22]⟩, none, false, [], false⟩])
 (.seq (.reg false [⟨some 9, .assign (.const (.int .i64 0)), none, false, [], false⟩])
 (.block 0
 (.loop (.block 1
 (.seq (.seq
 (.reg false [⟨some 41, .fieldAddr 25 (.tmp 7) 4, none, false, [], false⟩,
 ⟨some 42, .load 23 (.tmp 41), none, false, [], false⟩,
 ⟨some 43, .move (.tmp 9), none, false, [], false⟩,
 ⟨some 44, .indexAddr 23 (.tmp 42) (.tmp 43), none, false, [], false⟩,
 ⟨some 45, .fieldAddr 49 (.tmp 44) 0, none, false, [], false⟩,
 ⟨some 46, .load 47 (.tmp 45), none, false, [], false⟩,
 ⟨some 47, .call ⟨.builtin .len, #[.tmp 46], #[47]⟩, none, false, [], false⟩,
 ⟨some 48, .move (.const (.int .i64 0)), none, false, [], false⟩])
 (.block 2
 (.loop (.seq (.reg false [⟨some 49, .binOp .lss 3 (.tmp 48) (.tmp 47) 3, none, false, [], false⟩])
 (.seq (.cond (.tmp 49)
 .skip
 (.exit 2))
 (.seq (.block 3
 (.seq (.reg false [⟨some 50, .indexAddr 47 (.tmp 46) (.tmp 48), none, false, [], false⟩,
 ⟨some 51, .load 46 (.tmp 50), none, false, [], false⟩,
 ⟨some 11, .alloc 46, none, false, [], false⟩,
 ⟨none, .store 46 (.tmp 11) (.tmp 51), none, false, [], false⟩])
 (.seq (.reg false [⟨some 52, .move (.tmp 0), none, false, [], false⟩,
 ⟨some 53, .call ⟨.value (.func 155), #[.tmp 52], #[114]⟩, none, false, [], false⟩])
 (.seq (.reg false [⟨some 54, .fieldAddr 46 (.tmp 11) 0, none, false, [], false⟩,
 ⟨some 55, .load 3 (.tmp 54), none, false, [], false⟩,
 ⟨some 56, .binOp .eql 3 (.tmp 55) (.const (.int .i64 9)) 3, none, false, [], false⟩])
 (.cond (.tmp 56)
 (.reg false [⟨some 57, .move (.tmp 0), none, false, [], false⟩,
 ⟨some 58, .load 46 (.tmp 11), none, false, [], false⟩,
 ⟨some 59, .move (.tmp 8), none, false, [], false⟩,
 ⟨some 60, .call ⟨.value (.func 156), #[.tmp 57, .tmp 58, .tmp 59], #[114, 46, 22]⟩, none, false, [], false⟩])
 (.reg false [⟨some 61, .move (.tmp 0), none, false, [], false⟩,
 ⟨some 62, .load 46 (.tmp 11), none, false, [], false⟩,
 ⟨some 63, .move (.tmp 8), none, false, [], false⟩,
 ⟨some 64, .call ⟨.value (.func 157), #[.tmp 61, .tmp 62, .tmp 63], #[114, 46, 22]⟩, none, false, [], false⟩]))))))
 (.reg false [⟨some 65, .binOp .add 3 (.tmp 48) (.const (.int .i64 1)) 3, none, false, [], false⟩,
 ⟨some 48, .move (.tmp 65), none, false, [], false⟩])))))))
 (.seq (.reg false [⟨some 66, .move (.tmp 0), none, false, [], false⟩,
 ⟨some 67, .call ⟨.value (.func 155), #[.tmp 66], #[114]⟩, none, false, [], false⟩])
 (.seq (.reg false [⟨some 68, .fieldAddr 25 (.tmp 7) 4, none, false, [], false⟩,
 ⟨some 69, .load 23 (.tmp 68), none, false, [], false⟩,
 ⟨some 70, .move (.tmp 9), none, false, [], false⟩,
 ⟨some 71, .indexAddr 23 (.tmp 69) (.tmp 70), none, false, [], false⟩,
 ⟨some 72, .fieldAddr 49 (.tmp 71) 1, none, false, [], false⟩,
 ⟨some 73, .load 29 (.tmp 72), none, false, [], false⟩,
 ⟨some 12, .alloc 29, none, false, [], false⟩,
 ⟨none, .store 29 (.tmp 12) (.tmp 73), none, false, [], false⟩])
 (.block 4
 (.seq (.reg false [⟨some 77, .fieldAddr 29 (.tmp 12) 0, none, false, [], false⟩,
 ⟨some 78, .load 3 (.tmp 77), none, false, [], false⟩,
 ⟨some 79, .binOp .eql 3 (.tmp 78) (.const (.int .i64 3)) 3, none, false, [], false⟩,
 ⟨some 76, .assign (.tmp 79), none, false, [], false⟩])
 (.cond (.tmp 76)
 (.seq (.reg false [⟨some 80, .move (.tmp 0), none, false, [], false⟩,
 ⟨some 81, .nilCheck (.tmp 80), none, false, [], false⟩,
 ⟨some 82, .fieldAddr 116 (.tmp 81) 5, none, false, [], false⟩,
 ⟨some 83, .load 3 (.tmp 82), none, false, [], false⟩,
 ⟨some 84, .binOp .sub 3 (.tmp 83) (.const (.int .i64 1)) 3, none, false, [], false⟩,
 ⟨some 85, .nilCheck (.tmp 80), none, false, [], false⟩,
 ⟨some 86, .fieldAddr 116 (.tmp 85) 5, none, false, [], false⟩,
 ⟨none, .store 3 (.tmp 86) (.tmp 84), none, false, [], false⟩])
 (.seq (.seq
 (.reg false [⟨some 87, .fieldAddr 29 (.tmp 12) 1, none, false, [], false⟩,
 ⟨some 88, .load 3 (.tmp 87), none, false, [], false⟩,
 ⟨some 89, .binOp .lss 3 (.tmp 88) (.const (.int .i64 0)) 3, none, false, [], false⟩])
 (.cond (.tmp 89)
 (.seq (.reg false [⟨some 6, .assign (.const (.int .i64 0)), none, false, [], false⟩])
 .ret)
 .skip))
 (.seq (.reg false [⟨some 90, .move (.tmp 8), none, false, [], false⟩,
 ⟨some 91, .fieldAddr 29 (.tmp 12) 1, none, false, [], false⟩,
 ⟨some 92, .load 3 (.tmp 91), none, false, [], false⟩,
 ⟨some 93, .indexAddr 22 (.tmp 90) (.tmp 92), none, false, [], false⟩,
 ⟨some 94, .load 3 (.tmp 93), none, false, [], false⟩,
 ⟨some 6, .assign (.tmp 94), none, false, [], false⟩])
 .ret)))
 (.seq (.reg false [⟨some 96, .fieldAddr 29 (.tmp 12) 0, none, false, [], false⟩,
 ⟨some 97, .load 3 (.tmp 96), none, false, [], false⟩,
 ⟨some 98, .binOp .eql 3 (.tmp 97) (.const (.int .i64 2)) 3, none, false, [], false⟩,
 ⟨some 99, .move (.tmp 98), none, false, [], false⟩,
 ⟨some 100, .move (.tmp 8), some (some 99, true), false, [], false⟩,
 ⟨some 101, .fieldAddr 29 (.tmp 12) 1, some (some 99, true), false, [], false⟩,
 ⟨some 102, .load 3 (.tmp 101), some (some 99, true), false, [], false⟩,
 ⟨some 103, .indexAddr 22 (.tmp 100) (.tmp 102), some (some 99, true), false, [], false⟩,
 ⟨some 104, .load 3 (.tmp 103), some (some 99, true), false, [], false⟩,
 ⟨some 105, .binOp .eql 3 (.tmp 104) (.const (.int .i64 0)) 3, some (some 99, true), false, [], false⟩,
 ⟨some 106, .pick (.tmp 99) (.tmp 105) (.const (.bool false)), none, false, [], false⟩,
 ⟨some 95, .assign (.tmp 106), none, false, [], false⟩])
 (.cond (.tmp 95)
 (.reg false [⟨some 107, .fieldAddr 29 (.tmp 12) 3, none, false, [], false⟩,
 ⟨some 108, .load 3 (.tmp 107), none, false, [], false⟩,
 ⟨some 9, .assign (.tmp 108), none, false, [], false⟩])
 (.reg false [⟨some 74, .fieldAddr 29 (.tmp 12) 2, none, false, [], false⟩,
 ⟨some 75, .load 3 (.tmp 74), none, false, [], false⟩,
 ⟨some 9, .assign (.tmp 75), none, false, [], false⟩])))))))))))))))))))
noncomputable def fi101 : FI := ⟨c101, 109, [.tmp 6], .plain⟩
noncomputable def c104 : XC :=
 (.seq (.reg false [⟨some 4, .assign (.const (.bool false)), none, false, [], false⟩])
 (.seq (.seq
 (.reg false [⟨some 6, .move (.tmp 0), none, false, [], false⟩,
 ⟨some 7, .call ⟨.builtin .len, #[.tmp 6], #[34]⟩, none, false, [], false⟩,
 ⟨some 8, .move (.tmp 1), none, false, [], false⟩,
 ⟨some 9, .call ⟨.builtin .len, #[.tmp 8], #[34]⟩, none, false, [], false⟩,
 ⟨some 10, .binOp .neq 3 (.tmp 7) (.tmp 9) 3, none, false, [], false⟩])
 (.cond (.tmp 10)
 (.seq (.reg false [⟨some 4, .assign (.const (.bool false)), none, false, [], false⟩])
 .ret)
 .skip))
 (.seq (.seq
 (.reg false [⟨some 5, .assign (.const (.int .i64 0)), none, false, [], false⟩])
 (.block 0
 (.loop (.seq (.seq
 (.reg false [⟨some 11, .move (.tmp 5), none, false, [], false⟩,
 ⟨some 12, .move (.tmp 0), none, false, [], false⟩,
 ⟨some 13, .call ⟨.builtin .len, #[.tmp 12], #[34]⟩, none, false, [], false⟩,
 ⟨some 14, .binOp .lss 3 (.tmp 11) (.tmp 13) 3, none, false, [], false⟩])
 (.cond (.tmp 14)
 .skip
 (.exit 0)))
 (.seq (.block 1
 (.seq (.reg true [⟨some 17, .move (.tmp 0), none, false, [], false⟩,
 ⟨some 18, .move (.tmp 5), none, false, [], false⟩,
 ⟨some 19, .indexAddr 34 (.tmp 17) (.tmp 18), none, false, [], false⟩,
 ⟨some 20, .load 105 (.tmp 19), none, false, [], false⟩,
 ⟨some 21, .move (.tmp 1), none, false, [], false⟩,
 ⟨some 22, .move (.tmp 5), none, false, [], false⟩,
 ⟨some 23, .indexAddr 34 (.tmp 21) (.tmp 22), none, false, [], false⟩,
 ⟨some 24, .load 105 (.tmp 23), none, false, [], false⟩,
 ⟨some 25, .binOp .eql 105 (.tmp 20) (.tmp 24) 105, none, false, [], false⟩,
 ⟨some 26, .unOp .not 4 (.tmp 25), none, false, [], false⟩])
 (.cond (.tmp 26)
 (.seq (.reg false [⟨some 4, .assign (.const (.bool false)), none, false, [], false⟩])
 .ret)
 .skip)))
 (.reg false [⟨some 15, .move (.tmp 5), none, false, [], false⟩,
 ⟨some 16, .binOp .add 3 (.tmp 15) (.const (.int .i64 1)) 3, none, false, [], false⟩,
 ⟨some 5, .assign (.tmp 16), none, false, [], false⟩]))))))
 (.seq (.reg false [⟨some 4, .assign (.const (.bool true)), none, false, [], false⟩])
 .ret))))
noncomputable def fi104 : FI := ⟨c104, 27, [.tmp 4], .plain⟩
noncomputable def c105 : XC :=
 (.seq (.reg false [⟨some 4, .assign (.const (.bool false)), none, false, [], false⟩])
 (.seq (.seq
 (.reg false [⟨some 6, .move (.tmp 0), none, false, [], false⟩,
 ⟨some 7, .call ⟨.builtin .len, #[.tmp 6], #[33]⟩, none, false, [], false⟩,
 ⟨some 8, .move (.tmp 1), none, false, [], false⟩,
 ⟨some 9, .call ⟨.builtin .len, #[.tmp 8], #[33]⟩, none, false, [], false⟩,
 ⟨some 10, .binOp .neq 3 (.tmp 7) (.tmp 9) 3, none, false, [], false⟩])
 (.cond (.tmp 10)
 (.seq (.reg false [⟨some 4, .assign (.const (.bool false)), none, false, [], false⟩])
 .ret)
 .skip))
 (.seq (.seq
 (.reg false [⟨some 5, .assign (.const (.int .i64 0)), none, false, [], false⟩])
 (.block 0
 (.loop (.seq (.seq
 (.reg false [⟨some 11, .move (.tmp 5), none, false, [], false⟩,
 ⟨some 12, .move (.tmp 0), none, false, [], false⟩,
 ⟨some 13, .call ⟨.builtin .len, #[.tmp 12], #[33]⟩, none, false, [], false⟩,
 ⟨some 14, .binOp .lss 3 (.tmp 11) (.tmp 13) 3, none, false, [], false⟩])
 (.cond (.tmp 14)
 .skip
 (.exit 0)))
 (.seq (.block 1
 (.seq (.reg true [⟨some 17, .move (.tmp 0), none, false, [], false⟩,
 ⟨some 18, .move (.tmp 5), none, false, [], false⟩,
 ⟨some 19, .indexAddr 33 (.tmp 17) (.tmp 18), none, false, [], false⟩,
 ⟨some 20, .load 25 (.tmp 19), none, false, [], false⟩,
 ⟨some 21, .move (.tmp 1), none, false, [], false⟩,
 ⟨some 22, .move (.tmp 5), none, false, [], false⟩,
 ⟨some 23, .indexAddr 33 (.tmp 21) (.tmp 22), none, false, [], false⟩,
 ⟨some 24, .load 25 (.tmp 23), none, false, [], false⟩,
 ⟨some 25, .call ⟨.value (.func 16), #[.tmp 20, .tmp 24], #[25, 25]⟩, none, false, [true], false⟩,
 ⟨some 26, .unOp .not 4 (.tmp 25), none, false, [], false⟩])
 (.cond (.tmp 26)
 (.seq (.reg false [⟨some 4, .assign (.const (.bool false)), none, false, [], false⟩])
 .ret)
 .skip)))
 (.reg false [⟨some 15, .move (.tmp 5), none, false, [], false⟩,
 ⟨some 16, .binOp .add 3 (.tmp 15) (.const (.int .i64 1)) 3, none, false, [], false⟩,
 ⟨some 5, .assign (.tmp 16), none, false, [], false⟩]))))))
 (.seq (.reg false [⟨some 4, .assign (.const (.bool true)), none, false, [], false⟩])
 .ret))))
noncomputable def fi105 : FI := ⟨c105, 27, [.tmp 4], .plain⟩
noncomputable def c108 : XC :=
 (.seq (.reg false [⟨some 1, .box 36 (.tmp 0), none, false, [], false⟩,
 ⟨some 2, .assign (.const (.bool false)), none, false, [], false⟩])
 (.seq (.seq
 (.reg false [⟨some 9, .fieldAddr 36 (.tmp 1) 0, none, false, [], false⟩,
 ⟨some 10, .load 34 (.tmp 9), none, false, [], false⟩,
 ⟨some 11, .call ⟨.builtin .len, #[.tmp 10], #[34]⟩, none, false, [], false⟩,
 ⟨some 12, .binOp .gtr 3 (.tmp 11) (.const (.int .i64 20)) 3, none, false, [], false⟩,
 ⟨some 13, .move (.tmp 12), none, false, [], false⟩,
 ⟨some 14, .fieldAddr 36 (.tmp 1) 1, some (some 13, false), false, [], false⟩,
 ⟨some 15, .load 33 (.tmp 14), some (some 13, false), false, [], false⟩,
 ⟨some 16, .call ⟨.builtin .len, #[.tmp 15], #[33]⟩, some (some 13, false), false, [], false⟩,
 ⟨some 17, .binOp .gtr 3 (.tmp 16) (.const (.int .i64 12)) 3, some (some 13, false), false, [], false⟩,
 ⟨some 18, .pick (.tmp 13) (.const (.bool true)) (.tmp 17), none, false, [], false⟩])
 (.cond (.tmp 18)
 (.seq (.reg false [⟨some 2, .assign (.const (.bool true)), none, false, [], false⟩])
 .ret)
 .skip))
 (.seq (.reg false [⟨some 3, .assign (.const (.int .i64 0)), none, false, [], false⟩])
 (.seq (.seq
 (.reg false [⟨some 4, .assign (.const (.int .i64 0)), none, false, [], false⟩])
 (.block 0
 (.loop (.seq (.seq
 (.reg false [⟨some 19, .move (.tmp 4), none, false, [], false⟩,
 ⟨some 20, .fieldAddr 36 (.tmp 1) 0, none, false, [], false⟩,
 ⟨some 21, .load 34 (.tmp 20), none, false, [], false⟩,
 ⟨some 22, .call ⟨.builtin .len, #[.tmp 21], #[34]⟩, none, false, [], false⟩,
 ⟨some 23, .binOp .lss 3 (.tmp 19) (.tmp 22) 3, none, false, [], false⟩])
 (.cond (.tmp 23)
 .skip
 (.exit 0)))
 (.seq (.block 1
 (.seq (.reg false [⟨some 26, .fieldAddr 36 (.tmp 1) 0, none, false, [], false⟩,
 ⟨some 27, .load 34 (.tmp 26), none, false, [], false⟩,
 ⟨some 28, .move (.tmp 4), none, false, [], false⟩,
 ⟨some 29, .indexAddr 34 (.tmp 27) (.tmp 28), none, false, [], false⟩,
 ⟨some 30, .fieldAddr 105 (.tmp 29) 2, none, false, [], false⟩,
 ⟨some 31, .load 3 (.tmp 30), none, false, [], false⟩,
 ⟨some 32, .binOp .gtr 3 (.tmp 31) (.const (.int .i64 1024)) 3, none, false, [], false⟩])
 (.cond (.tmp 32)
 (.seq (.reg false [⟨some 2, .assign (.const (.bool true)), none, false, [], false⟩])
 .ret)
 .skip)))
 (.reg false [⟨some 24, .move (.tmp 4), none, false, [], false⟩,
 ⟨some 25, .binOp .add 3 (.tmp 24) (.const (.int .i64 1)) 3, none, false, [], false⟩,
 ⟨some 4, .assign (.tmp 25), none, false, [], false⟩]))))))
 (.seq (.seq
 (.reg false [⟨some 5, .assign (.const (.int .i64 0)), none, false, [], false⟩])
 (.block 2
 (.loop (.seq (.seq
 (.reg false [⟨some 33, .move (.tmp 5), none, false, [], false⟩,
 ⟨some 34, .fieldAddr 36 (.tmp 1) 1, none, false, [], false⟩,
 ⟨some 35, .load 33 (.tmp 34), none, false, [], false⟩,
 ⟨some 36, .call ⟨.builtin .len, #[.tmp 35], #[33]⟩, none, false, [], false⟩,
 ⟨some 37, .binOp .lss 3 (.tmp 33) (.tmp 36) 3, none, false, [], false⟩])
 (.cond (.tmp 37)
 .skip
 (.exit 2)))
 (.seq (.block 3
 (.seq (.reg false [⟨some 40, .fieldAddr 36 (.tmp 1) 1, none, false, [], false⟩,
 ⟨some 41, .load 33 (.tmp 40), none, false, [], false⟩,
 ⟨some 42, .move (.tmp 5), none, false, [], false⟩,
 ⟨some 43, .indexAddr 33 (.tmp 41) (.tmp 42), none, false, [], false⟩,
 ⟨some 44, .load 25 (.tmp 43), none, false, [], false⟩,
 ⟨some 6, .alloc 25, none, false, [], false⟩,
 ⟨none, .store 25 (.tmp 6) (.tmp 44), none, false, [], false⟩])
 (.seq (.reg false [⟨some 45, .move (.tmp 3), none, false, [], false⟩,
 ⟨some 46, .fieldAddr 25 (.tmp 6) 3, none, false, [], false⟩,
 ⟨some 47, .load 22 (.tmp 46), none, false, [], false⟩,
 ⟨some 48, .call ⟨.builtin .len, #[.tmp 47], #[22]⟩, none, false, [], false⟩,
 ⟨some 49, .binOp .add 3 (.tmp 45) (.tmp 48) 3, none, false, [], false⟩,
 ⟨some 50, .fieldAddr 25 (.tmp 6) 4, none, false, [], false⟩,
 ⟨some 51, .load 23 (.tmp 50), none, false, [], false⟩,
 ⟨some 52, .call ⟨.builtin .len, #[.tmp 51], #[23]⟩, none, false, [], false⟩,
 ⟨some 53, .binOp .add 3 (.tmp 49) (.tmp 52) 3, none, false, [], false⟩,
 ⟨some 3, .assign (.tmp 53), none, false, [], false⟩])
 (.seq (.seq
 (.reg false [⟨some 7, .assign (.const (.int .i64 0)), none, false, [], false⟩])
 (.block 4
 (.loop (.seq (.seq
 (.reg false [⟨some 54, .move (.tmp 7), none, false, [], false⟩,
 ⟨some 55, .fieldAddr 25 (.tmp 6) 4, none, false, [], false⟩,
 ⟨some 56, .load 23 (.tmp 55), none, false, [], false⟩,
 ⟨some 57, .call ⟨.builtin .len, #[.tmp 56], #[23]⟩, none, false, [], false⟩,
 ⟨some 58, .binOp .lss 3 (.tmp 54) (.tmp 57) 3, none, false, [], false⟩])
 (.cond (.tmp 58)
 .skip
 (.exit 4)))
 (.seq (.block 5
 (.seq (.reg false [⟨some 61, .move (.tmp 3), none, false, [], false⟩,
 ⟨some 62, .fieldAddr 25 (.tmp 6) 4, none, false, [], false⟩,
 ⟨some 63, .load 23 (.tmp 62), none, false, [], false⟩,
 ⟨some 64, .move (.tmp 7), none, false, [], false⟩,
 ⟨some 65, .indexAddr 23 (.tmp 63) (.tmp 64), none, false, [], false⟩,
 ⟨some 66, .fieldAddr 49 (.tmp 65) 0, none, false, [], false⟩,
 ⟨some 67, .load 47 (.tmp 66), none, false, [], false⟩,
 ⟨some 68, .call ⟨.builtin .len, #[.tmp 67], #[47]⟩, none, false, [], false⟩,
 ⟨some 69, .binOp .add 3 (.tmp 61) (.tmp 68) 3, none, false, [], false⟩,
 ⟨some 3, .assign (.tmp 69), none, false, [], false⟩])
 (.seq (.reg false [⟨some 8, .assign (.const (.int .i64 0)), none, false, [], false⟩])
 (.block 6
 (.loop (.seq (.seq
 (.reg false [⟨some 70, .move (.tmp 8), none, false, [], false⟩,
 ⟨some 71, .fieldAddr 25 (.tmp 6) 4, none, false, [], false⟩,
 ⟨some 72, .load 23 (.tmp 71), none, false, [], false⟩,
 ⟨some 73, .move (.tmp 7), none, false, [], false⟩,
 ⟨some 74, .indexAddr 23 (.tmp 72) (.tmp 73), none, false, [], false⟩,
 ⟨some 75, .fieldAddr 49 (.tmp 74) 0, none, false, [], false⟩,
 ⟨some 76, .load 47 (.tmp 75), none, false, [], false⟩,
 ⟨some 77, .call ⟨.builtin .len, #[.tmp 76], #[47]⟩, none, false, [], false⟩,
 ⟨some 78, .binOp .lss 3 (.tmp 70) (.tmp 77) 3, none, false, [], false⟩])
 (.cond (.tmp 78)
 .skip
 (.exit 6)))
 (.seq (.block 7
 (.reg false [⟨some 81, .move (.tmp 3), none, false, [], false⟩,
 ⟨some 82, .fieldAddr 25 (.tmp 6) 4, none, false, [], false⟩,
 ⟨some 83, .load 23 (.tmp 82), none, false, [], false⟩,
 ⟨some 84, .move (.tmp 7), none, false, [], false⟩,
 ⟨some 85, .indexAddr 23 (.tmp 83) (.tmp 84), none, false, [], false⟩,
 ⟨some 86, .fieldAddr 49 (.tmp 85) 0, none, false, [], false⟩,
 ⟨some 87, .load 47 (.tmp 86), none, false, [], false⟩,
 ⟨some 88, .move (.tmp 8), none, false, [], false⟩,
 ⟨some 89, .indexAddr 47 (.tmp 87) (.tmp 88), none, false, [], false⟩,
 ⟨some 90, .fieldAddr 46 (.tmp 89) 7, none, false, [], false⟩,
 ⟨some 91, .load 22 (.tmp 90), none, false, [], false⟩,
 ⟨some 92, .call ⟨.builtin .len, #[.tmp 91], #[22]⟩, none, false, [], false⟩,
 ⟨some 93, .binOp .add 3 (.tmp 81) (.tmp 92) 3, none, false, [], false⟩,
 ⟨some 3, .assign (.tmp 93), none, false, [], false⟩]))
 (.reg false [⟨some 79, .move (.tmp 8), none, false, [], false⟩,
 ⟨some 80, .binOp .add 3 (.tmp 79) (.const (.int .i64 1)) 3, none, false, [], false⟩,
 ⟨some 8, .assign (.tmp 80), none, false, [], false⟩]))))))))
 (.reg false [⟨some 59, .move (.tmp 7), none, false, [], false⟩,
 ⟨some 60, .binOp .add 3 (.tmp 59) (.const (.int .i64 1)) 3, none, false, [], false⟩,
 ⟨some 7, .assign (.tmp 60), none, false, [], false⟩]))))))
 (.seq (.reg false [⟨some 94, .move (.tmp 3), none, false, [], false⟩,
 ⟨some 95, .binOp .gtr 3 (.tmp 94) (.const (.int .i64 3000)) 3, none, false, [], false⟩])
 (.cond (.tmp 95)
 (.seq (.reg false [⟨some 2, .assign (.const (.bool true)), none, false, [], false⟩])
 .ret)
 .skip))))))
 (.reg false [⟨some 38, .move (.tmp 5), none, false, [], false⟩,
 ⟨some 39, .binOp .add 3 (.tmp 38) (.const (.int .i64 1)) 3, none, false, [], false⟩,
 ⟨some 5, .assign (.tmp 39), none, false, [], false⟩]))))))
 (.seq (.reg false [⟨some 2, .assign (.const (.bool false)), none, false, [], false⟩])
 .ret))))))
noncomputable def fi108 : FI := ⟨c108, 96, [.tmp 2], .plain⟩
noncomputable def c109 : XC :=
 (.seq (.reg false [⟨some 2, .assign (.const (.slice none 0 0)), none, false, [], false⟩])
 (.seq (.reg false [⟨some 3, .assign (.const (.slice none 0 0)), none, false, [], false⟩])
 (.seq (.seq
 (.reg false [⟨some 4, .assign (.const (.int .i64 0)), none, false, [], false⟩])
 (.block 0
 (.loop (.seq (.seq
 (.reg false [⟨some 5, .move (.tmp 4), none, false, [], false⟩,
 ⟨some 6, .move (.tmp 0), none, false, [], false⟩,
 ⟨some 7, .call ⟨.builtin .len, #[.tmp 6], #[22]⟩, none, false, [], false⟩,
 ⟨some 8, .binOp .lss 3 (.tmp 5) (.tmp 7) 3, none, false, [], false⟩])
 (.cond (.tmp 8)
 .skip
 (.exit 0)))
 (.seq (.block 1
 (.reg false [⟨some 11, .move (.tmp 3), none, false, [], false⟩,
 ⟨some 12, .move (.tmp 0), none, false, [], false⟩,
 ⟨some 13, .move (.tmp 4), none, false, [], false⟩,
 ⟨some 14, .indexAddr 22 (.tmp 12) (.tmp 13), none, false, [], false⟩,
 ⟨some 15, .load 3 (.tmp 14), none, false, [], false⟩,
 ⟨some 16, .buildSlice 22 1 #[(0, .tmp 15)], none, false, [], false⟩,
 ⟨some 17, .call ⟨.builtin .append, #[.tmp 11, .tmp 16], #[22, 22]⟩, none, false, [], false⟩,
 ⟨some 3, .assign (.tmp 17), none, false, [], false⟩]))
 (.reg false [⟨some 9, .move (.tmp 4), none, false, [], false⟩,
 ⟨some 10, .binOp .add 3 (.tmp 9) (.const (.int .i64 1)) 3, none, false, [], false⟩,
 ⟨some 4, .assign (.tmp 10), none, false, [], false⟩]))))))
 (.seq (.reg false [⟨some 18, .move (.tmp 3), none, false, [], false⟩,
 ⟨some 2, .assign (.tmp 18), none, false, [], false⟩])
 .ret))))
noncomputable def fi109 : FI := ⟨c109, 19, [.tmp 2], .plain⟩
noncomputable def c111 : XC :=
 (.seq (.reg false [⟨some 2, .assign (.const (.int .i64 0)), none, false, [], false⟩])
 (.block 0
 (.loop (.seq (.seq
 (.reg false [⟨some 3, .move (.tmp 2), none, false, [], false⟩,
 ⟨some 4, .move (.tmp 0), none, false, [], false⟩,
 ⟨some 5, .call ⟨.builtin .len, #[.tmp 4], #[22]⟩, none, false, [], false⟩,
 ⟨some 6, .binOp .lss 3 (.tmp 3) (.tmp 5) 3, none, false, [], false⟩])
 (.cond (.tmp 6)
 .skip
 (.exit 0)))
 (.seq (.block 1
 (.reg false [⟨some 9, .move (.tmp 0), none, false, [], false⟩,
 ⟨some 10, .move (.tmp 2), none, false, [], false⟩,
 ⟨some 11, .move (.tmp 2), none, false, [], false⟩,
 ⟨some 12, .binOp .add 3 (.tmp 11) (.const (.int .i64 7)) 3, none, false, [], false⟩,
 ⟨some 13, .call ⟨.value (.func 164), #[.tmp 12], #[3]⟩, none, false, [], false⟩,
 ⟨some 14, .indexAddr 22 (.tmp 9) (.tmp 10), none, false, [], false⟩,
 ⟨none, .store 3 (.tmp 14) (.tmp 13), none, false, [], false⟩]))
 (.reg false [⟨some 7, .move (.tmp 2), none, false, [], false⟩,
 ⟨some 8, .binOp .add 3 (.tmp 7) (.const (.int .i64 1)) 3, none, false, [], false⟩,
 ⟨some 2, .assign (.tmp 8), none, false, [], false⟩]))))))
noncomputable def fi111 : FI := ⟨c111, 15, [], .plain⟩
noncomputable def c112 : XC :=
 (.seq (.reg false [⟨some 2, .assign (.const (.int .i64 0)), none, false, [], false⟩])
 (.block 0
 (.loop (.seq (.seq
 (.reg false [⟨some 3, .move (.tmp 2), none, false, [], false⟩,
 ⟨some 4, .move (.tmp 0), none, false, [], false⟩,
 ⟨some 5, .call ⟨.builtin .len, #[.tmp 4], #[47]⟩, none, false, [], false⟩,
 ⟨some 6, .binOp .lss 3 (.tmp 3) (.tmp 5) 3, none, false, [], false⟩])
 (.cond (.tmp 6)
 .skip
 (.exit 0)))
 (.seq (.block 1
 (.reg false [⟨some 9, .move (.tmp 0), none, false, [], false⟩,
 ⟨some 10, .move (.tmp 2), none, false, [], false⟩,
 ⟨some 11, .move (.tmp 2), none, false, [], false⟩,
 ⟨some 12, .binOp .add 3 (.tmp 11) (.const (.int .i64 7)) 3, none, false, [], false⟩,
 ⟨some 13, .call ⟨.value (.func 165), #[.tmp 12], #[3]⟩, none, false, [], false⟩,
 ⟨some 14, .indexAddr 47 (.tmp 9) (.tmp 10), none, false, [], false⟩,
 ⟨none, .store 46 (.tmp 14) (.tmp 13), none, false, [], false⟩]))
 (.reg false [⟨some 7, .move (.tmp 2), none, false, [], false⟩,
 ⟨some 8, .binOp .add 3 (.tmp 7) (.const (.int .i64 1)) 3, none, false, [], false⟩,
 ⟨some 2, .assign (.tmp 8), none, false, [], false⟩]))))))
noncomputable def fi112 : FI := ⟨c112, 15, [], .plain⟩
noncomputable def c113 : XC :=
 (.seq (.reg false [⟨some 2, .assign (.const (.int .i64 0)), none, false, [], false⟩])
 (.block 0
 (.loop (.seq (.seq
 (.reg false [⟨some 3, .move (.tmp 2), none, false, [], false⟩,
 ⟨some 4, .move (.tmp 0), none, false, [], false⟩,
 ⟨some 5, .call ⟨.builtin .len, #[.tmp 4], #[23]⟩, none, false, [], false⟩,
 ⟨some 6, .binOp .lss 3 (.tmp 3) (.tmp 5) 3, none, false, [], false⟩])
 (.cond (.tmp 6)
 .skip
 (.exit 0)))
 (.seq (.block 1
 (.reg false [⟨some 9, .move (.tmp 0), none, false, [], false⟩,
 ⟨some 10, .move (.tmp 2), none, false, [], false⟩,
 ⟨some 11, .move (.tmp 2), none, false, [], false⟩,
 ⟨some 12, .binOp .add 3 (.tmp 11) (.const (.int .i64 7)) 3, none, false, [], false⟩,
 ⟨some 13, .call ⟨.value (.func 166), #[.tmp 12], #[3]⟩, none, false, [], false⟩,
 ⟨some 14, .indexAddr 23 (.tmp 9) (.tmp 10), none, false, [], false⟩,
 ⟨none, .store 49 (.tmp 14) (.tmp 13), none, false, [], false⟩]))
 (.reg false [⟨some 7, .move (.tmp 2), none, false, [], false⟩,
 ⟨some 8, .binOp .add 3 (.tmp 7) (.const (.int .i64 1)) 3, none, false, [], false⟩,
 ⟨some 2, .assign (.tmp 8), none, false, [], false⟩]))))))
noncomputable def fi113 : FI := ⟨c113, 15, [], .plain⟩
noncomputable def c114 : XC :=
 (.seq (.reg false [⟨some 2, .box 46 (.tmp 0), none, false, [], false⟩,
 ⟨some 3, .box 46 (.tmp 1), none, false, [], false⟩,
 ⟨some 4, .assign (.const (.bool false)), none, false, [], false⟩])
 (.seq (.reg false [⟨some 5, .fieldAddr 46 (.tmp 2) 0, none, false, [], false⟩,
 ⟨some 6, .load 3 (.tmp 5), none, false, [], false⟩,
 ⟨some 7, .fieldAddr 46 (.tmp 3) 0, none, false, [], false⟩,
 ⟨some 8, .load 3 (.tmp 7), none, false, [], false⟩,
 ⟨some 9, .binOp .eql 3 (.tmp 6) (.tmp 8) 3, none, false, [], false⟩,
 ⟨some 10, .move (.tmp 9), none, false, [], false⟩,
 ⟨some 11, .fieldAddr 46 (.tmp 2) 1, some (some 10, true), false, [], false⟩,
 ⟨some 12, .load 3 (.tmp 11), some (some 10, true), false, [], false⟩,
 ⟨some 13, .fieldAddr 46 (.tmp 3) 1, some (some 10, true), false, [], false⟩,
 ⟨some 14, .load 3 (.tmp 13), some (some 10, true), false, [], false⟩,
 ⟨some 15, .binOp .eql 3 (.tmp 12) (.tmp 14) 3, some (some 10, true), false, [], false⟩,
 ⟨some 16, .pick (.tmp 10) (.tmp 15) (.const (.bool false)), none, false, [], false⟩,
 ⟨some 17, .move (.tmp 16), none, false, [], false⟩,
 ⟨some 18, .fieldAddr 46 (.tmp 2) 2, some (some 17, true), false, [], false⟩,
 ⟨some 19, .load 3 (.tmp 18), some (some 17, true), false, [], false⟩,
 ⟨some 20, .fieldAddr 46 (.tmp 3) 2, some (some 17, true), false, [], false⟩,
 ⟨some 21, .load 3 (.tmp 20), some (some 17, true), false, [], false⟩,
 ⟨some 22, .binOp .eql 3 (.tmp 19) (.tmp 21) 3, some (some 17, true), false, [], false⟩,
 ⟨some 23, .pick (.tmp 17) (.tmp 22) (.const (.bool false)), none, false, [], false⟩,
 ⟨some 24, .move (.tmp 23), none, false, [], false⟩,
 ⟨some 25, .fieldAddr 46 (.tmp 2) 3, some (some 24, true), false, [], false⟩,
 ⟨some 26, .load 3 (.tmp 25), some (some 24, true), false, [], false⟩,
 ⟨some 27, .fieldAddr 46 (.tmp 3) 3, some (some 24, true), false, [], false⟩,
 ⟨some 28, .load 3 (.tmp 27), some (some 24, true), false, [], false⟩,
 ⟨some 29, .binOp .eql 3 (.tmp 26) (.tmp 28) 3, some (some 24, true), false, [], false⟩,
 ⟨some 30, .pick (.tmp 24) (.tmp 29) (.const (.bool false)), none, false, [], false⟩,
 ⟨some 31, .move (.tmp 30), none, false, [], false⟩,
 ⟨some 32, .fieldAddr 46 (.tmp 2) 4, some (some 31, true), false, [], false⟩,
 ⟨some 33, .load 3 (.tmp 32), some (some 31, true), false, [], false⟩,
 ⟨some 34, .fieldAddr 46 (.tmp 3) 4, some (some 31, true), false, [], false⟩,
 ⟨some 35, .load 3 (.tmp 34), some (some 31, true), false, [], false⟩,
 ⟨some 36, .binOp .eql 3 (.tmp 33) (.tmp 35) 3, some (some 31, true), false, [], false⟩,
 ⟨some 37, .pick (.tmp 31) (.tmp 36) (.const (.bool false)), none, false, [], false⟩,
 ⟨some 38, .move (.tmp 37), none, false, [], false⟩,
 ⟨some 39, .fieldAddr 46 (.tmp 2) 5, some (some 38, true), false, [], false⟩,
 ⟨some 40, .load 3 (.tmp 39), some (some 38, true), false, [], false⟩,
 ⟨some 41, .fieldAddr 46 (.tmp 3) 5, some (some 38, true), false, [], false⟩,
 ⟨some 42, .load 3 (.tmp 41), some (some 38, true), false, [], false⟩,
 ⟨some 43, .binOp .eql 3 (.tmp 40) (.tmp 42) 3, some (some 38, true), false, [], false⟩,
 ⟨some 44, .pick (.tmp 38) (.tmp 43) (.const (.bool false)), none, false, [], false⟩,
 ⟨some 45, .move (.tmp 44), none, false, [], false⟩,
 ⟨some 46, .fieldAddr 46 (.tmp 2) 6, some (some 45, true), false, [], false⟩,
 ⟨some 47, .load 9 (.tmp 46), some (some 45, true), false, [], false⟩,
 ⟨some 48, .fieldAddr 46 (.tmp 3) 6, some (some 45, true), false, [], false⟩,
 ⟨some 49, .load 9 (.tmp 48), some (some 45, true), false, [], false⟩,
 ⟨some 50, .binOp .eql 9 (.tmp 47) (.tmp 49) 9, some (some 45, true), false, [], false⟩,
 ⟨some 51, .pick (.tmp 45) (.tmp 50) (.const (.bool false)), none, false, [], false⟩,
 ⟨some 52, .move (.tmp 51), none, false, [], false⟩,
 ⟨some 53, .fieldAddr 46 (.tmp 2) 7, some (some 52, true), false, [], false⟩,
 ⟨some 54, .load 22 (.tmp 53), some (some 52, true), false, [], false⟩,
 ⟨some 55, .fieldAddr 46 (.tmp 3) 7, some (some 52, true), false, [], false⟩,
 ⟨some 56, .load 22 (.tmp 55), some (some 52, true), false, [], false⟩,
 ⟨some 57, .call ⟨.value (.func 61), #[.tmp 54, .tmp 56], #[22, 22]⟩, some (some 52, true), false, [], false⟩,
 ⟨some 58, .pick (.tmp 52) (.tmp 57) (.const (.bool false)), none, false, [], false⟩,
 ⟨some 4, .assign (.tmp 58), none, false, [], false⟩])
 .ret))
noncomputable def fi114 : FI := ⟨c114, 59, [.tmp 4], .plain⟩
noncomputable def c115 : XC :=
 (.seq (.reg false [⟨some 1, .box 25 (.tmp 0), none, false, [], false⟩,
 ⟨some 2, .assign (.const .nilFunc), none, false, [], false⟩])
 (.seq (.reg false [⟨some 3, .makeFunc (.func 167) #[] #[.tmp 1], none, false, [], false⟩,
 ⟨some 2, .assign (.tmp 3), none, false, [], false⟩])
 .ret))
noncomputable def fi115 : FI := ⟨c115, 4, [.tmp 2], .plain⟩
noncomputable def c116 : XC :=
 (.seq (.reg false [⟨some 4, .assign (.const (.int .i64 0)), none, false, [], false⟩])
 (.seq (.seq
 (.reg false [⟨some 6, .move (.tmp 0), none, false, [], false⟩,
 ⟨some 7, .call ⟨.builtin .len, #[.tmp 6], #[33]⟩, none, false, [], false⟩,
 ⟨some 8, .move (.const (.int .i64 0)), none, false, [], false⟩])
 (.block 0
 (.loop (.seq (.reg false [⟨some 9, .binOp .lss 3 (.tmp 8) (.tmp 7) 3, none, false, [], false⟩])
 (.seq (.cond (.tmp 9)
 .skip
 (.exit 0))
 (.seq (.block 1
 (.seq (.reg false [⟨some 10, .move (.tmp 8), none, false, [], false⟩,
 ⟨some 5, .assign (.tmp 10), none, false, [], false⟩])
 (.seq (.reg false [⟨some 11, .move (.tmp 1), none, false, [], false⟩,
 ⟨some 12, .move (.tmp 0), none, false, [], false⟩,
 ⟨some 13, .move (.tmp 5), none, false, [], false⟩,
 ⟨some 14, .indexAddr 33 (.tmp 12) (.tmp 13), none, false, [], false⟩,
 ⟨some 15, .load 25 (.tmp 14), none, false, [], false⟩,
 ⟨some 16, .call ⟨.value (.tmp 11), #[.tmp 15], #[25]⟩, none, false, [], false⟩])
 (.cond (.tmp 16)
 (.seq (.reg false [⟨some 17, .move (.tmp 5), none, false, [], false⟩,
 ⟨some 4, .assign (.tmp 17), none, false, [], false⟩])
 .ret)
 .skip))))
 (.reg false [⟨some 18, .binOp .add 3 (.tmp 8) (.const (.int .i64 1)) 3, none, false, [], false⟩,
 ⟨some 8, .move (.tmp 18), none, false, [], false⟩])))))))
 (.seq (.reg false [⟨some 4, .assign (.const (.int .i64 (-1))), none, false, [], false⟩])
 .ret)))
noncomputable def fi116 : FI := ⟨c116, 19, [.tmp 4], .plain⟩
noncomputable def c117 : XC :=
 (.seq (.reg false [⟨some 1, .box 25 (.tmp 0), none, false, [], false⟩,
 ⟨some 2, .assign (.const (.bool false)), none, false, [], false⟩])
 (.seq (.reg false [⟨some 3, .fieldAddr 25 (.tmp 1) 0, none, false, [], false⟩,
 ⟨some 4, .load 9 (.tmp 3), none, false, [], false⟩,
 ⟨some 5, .binOp .eql 9 (.tmp 4) (.const (.string ⟨#[109, 97, 105, 110]⟩)) 9, none, false, [], false⟩,
 ⟨some 2, .assign (.tmp 5), none, false, [], false⟩])
 .ret))
noncomputable def fi117 : FI := ⟨c117, 6, [.tmp 2], .plain⟩
noncomputable def c118 : XC :=
 (.seq (.reg false [⟨some 2, .assign (.const (.slice none 0 0)), none, false, [], false⟩])
 (.seq (.reg false [⟨some 3, .assign (.const (.slice none 0 0)), none, false, [], false⟩])
 (.seq (.seq
 (.reg false [⟨some 4, .assign (.const (.int .i64 0)), none, false, [], false⟩])
 (.block 0
 (.loop (.seq (.seq
 (.reg false [⟨some 5, .move (.tmp 4), none, false, [], false⟩,
 ⟨some 6, .move (.tmp 0), none, false, [], false⟩,
 ⟨some 7, .call ⟨.builtin .len, #[.tmp 6], #[34]⟩, none, false, [], false⟩,
 ⟨some 8, .binOp .lss 3 (.tmp 5) (.tmp 7) 3, none, false, [], false⟩])
 (.cond (.tmp 8)
 .skip
 (.exit 0)))
 (.seq (.block 1
 (.reg false [⟨some 11, .move (.tmp 3), none, false, [], false⟩,
 ⟨some 12, .move (.tmp 0), none, false, [], false⟩,
 ⟨some 13, .move (.tmp 4), none, false, [], false⟩,
 ⟨some 14, .indexAddr 34 (.tmp 12) (.tmp 13), none, false, [], false⟩,
 ⟨some 15, .load 105 (.tmp 14), none, false, [], false⟩,
 ⟨some 16, .buildSlice 34 1 #[(0, .tmp 15)], none, false, [], false⟩,
 ⟨some 17, .call ⟨.builtin .append, #[.tmp 11, .tmp 16], #[34, 34]⟩, none, false, [], false⟩,
 ⟨some 3, .assign (.tmp 17), none, false, [], false⟩]))
 (.reg false [⟨some 9, .move (.tmp 4), none, false, [], false⟩,
 ⟨some 10, .binOp .add 3 (.tmp 9) (.const (.int .i64 1)) 3, none, false, [], false⟩,
 ⟨some 4, .assign (.tmp 10), none, false, [], false⟩]))))))
 (.seq (.reg false [⟨some 18, .move (.tmp 3), none, false, [], false⟩,
 ⟨some 2, .assign (.tmp 18), none, false, [], false⟩])
 .ret))))
noncomputable def fi118 : FI := ⟨c118, 19, [.tmp 2], .plain⟩
noncomputable def c119 : XC :=
 (.seq (.reg false [⟨some 2, .assign (.const (.slice none 0 0)), none, false, [], false⟩])
 (.seq (.reg false [⟨some 3, .assign (.const (.slice none 0 0)), none, false, [], false⟩])
 (.seq (.seq
 (.reg false [⟨some 4, .assign (.const (.int .i64 0)), none, false, [], false⟩])
 (.block 0
 (.loop (.seq (.seq
 (.reg false [⟨some 5, .move (.tmp 4), none, false, [], false⟩,
 ⟨some 6, .move (.tmp 0), none, false, [], false⟩,
 ⟨some 7, .call ⟨.builtin .len, #[.tmp 6], #[33]⟩, none, false, [], false⟩,
 ⟨some 8, .binOp .lss 3 (.tmp 5) (.tmp 7) 3, none, false, [], false⟩])
 (.cond (.tmp 8)
 .skip
 (.exit 0)))
 (.seq (.block 1
 (.reg false [⟨some 11, .move (.tmp 3), none, false, [], false⟩,
 ⟨some 12, .move (.tmp 0), none, false, [], false⟩,
 ⟨some 13, .move (.tmp 4), none, false, [], false⟩,
 ⟨some 14, .indexAddr 33 (.tmp 12) (.tmp 13), none, false, [], false⟩,
 ⟨some 15, .load 25 (.tmp 14), none, false, [], false⟩,
 ⟨some 16, .call ⟨.value (.func 56), #[.tmp 15], #[25]⟩, none, false, [], false⟩,
 ⟨some 17, .buildSlice 33 1 #[(0, .tmp 16)], none, false, [], false⟩,
 ⟨some 18, .call ⟨.builtin .append, #[.tmp 11, .tmp 17], #[33, 33]⟩, none, false, [], false⟩,
 ⟨some 3, .assign (.tmp 18), none, false, [], false⟩]))
 (.reg false [⟨some 9, .move (.tmp 4), none, false, [], false⟩,
 ⟨some 10, .binOp .add 3 (.tmp 9) (.const (.int .i64 1)) 3, none, false, [], false⟩,
 ⟨some 4, .assign (.tmp 10), none, false, [], false⟩]))))))
 (.seq (.reg false [⟨some 19, .move (.tmp 3), none, false, [], false⟩,
 ⟨some 2, .assign (.tmp 19), none, false, [], false⟩])
 .ret))))
noncomputable def fi119 : FI := ⟨c119, 20, [.tmp 2], .plain⟩
noncomputable def c120 : XC :=
 (.seq (.reg false [⟨some 1, .box 36 (.tmp 0), none, false, [], false⟩,
 ⟨some 2, .assign (.const (.int .i64 0)), none, false, [], false⟩])
 (.seq (.seq
 (.reg false [⟨some 3, .assign (.const (.int .i64 0)), none, false, [], false⟩])
 (.block 0
 (.loop (.seq (.seq
 (.reg false [⟨some 4, .move (.tmp 3), none, false, [], false⟩,
 ⟨some 5, .fieldAddr 36 (.tmp 1) 1, none, false, [], false⟩,
 ⟨some 6, .load 33 (.tmp 5), none, false, [], false⟩,
 ⟨some 7, .call ⟨.builtin .len, #[.tmp 6], #[33]⟩, none, false, [], false⟩,
 ⟨some 8, .binOp .lss 3 (.tmp 4) (.tmp 7) 3, none, false, [], false⟩])
 (.cond (.tmp 8)
 .skip
 (.exit 0)))
 (.seq (.block 1
 (.seq (.reg false [⟨some 11, .fieldAddr 36 (.tmp 1) 1, none, false, [], false⟩,
 ⟨some 12, .load 33 (.tmp 11), none, false, [], false⟩,
 ⟨some 13, .move (.tmp 3), none, false, [], false⟩,
 ⟨some 14, .indexAddr 33 (.tmp 12) (.tmp 13), none, false, [], false⟩,
 ⟨some 15, .fieldAddr 25 (.tmp 14) 0, none, false, [], false⟩,
 ⟨some 16, .load 9 (.tmp 15), none, false, [], false⟩,
 ⟨some 17, .binOp .eql 9 (.tmp 16) (.const (.string ⟨#[109, 97, 105, 110]⟩)) 9, none, false, [], false⟩])
 (.cond (.tmp 17)
 (.seq (.reg false [⟨some 18, .move (.tmp 3), none, false, [], false⟩,
 ⟨some 2, .assign (.tmp 18), none, false, [], false⟩])
 .ret)
 .skip)))
 (.reg false [⟨some 9, .move (.tmp 3), none, false, [], false⟩,
 ⟨some 10, .binOp .add 3 (.tmp 9) (.const (.int .i64 1)) 3, none, false, [], false⟩,
 ⟨some 3, .assign (.tmp 10), none, false, [], false⟩]))))))
 (.seq (.reg false [⟨some 2, .assign (.const (.int .i64 (-1))), none, false, [], false⟩])
 .ret)))
noncomputable def fi120 : FI := ⟨c120, 19, [.tmp 2], .plain⟩
noncomputable def c121 : XC :=
 (.seq (.reg false [⟨some 2, .assign (.const (.bool false)), none, false, [], false⟩])
 (.seq (.seq
 (.reg false [⟨some 3, .assign (.const (.int .i64 0)), none, false, [], false⟩])
 (.block 0
 (.loop (.seq (.seq
 (.reg false [⟨some 4, .move (.tmp 3), none, false, [], false⟩,
 ⟨some 5, .move (.tmp 0), none, false, [], false⟩,
 ⟨some 6, .call ⟨.builtin .len, #[.tmp 5], #[56]⟩, none, false, [], false⟩,
 ⟨some 7, .binOp .lss 3 (.tmp 4) (.tmp 6) 3, none, false, [], false⟩])
 (.cond (.tmp 7)
 .skip
 (.exit 0)))
 (.seq (.block 1
 (.seq (.reg false [⟨some 10, .move (.tmp 0), none, false, [], false⟩,
 ⟨some 11, .move (.tmp 3), none, false, [], false⟩,
 ⟨some 12, .indexAddr 56 (.tmp 10) (.tmp 11), none, false, [], false⟩,
 ⟨some 13, .load 4 (.tmp 12), none, false, [], false⟩])
 (.cond (.tmp 13)
 (.seq (.reg false [⟨some 2, .assign (.const (.bool true)), none, false, [], false⟩])
 .ret)
 .skip)))
 (.reg false [⟨some 8, .move (.tmp 3), none, false, [], false⟩,
 ⟨some 9, .binOp .add 3 (.tmp 8) (.const (.int .i64 1)) 3, none, false, [], false⟩,
 ⟨some 3, .assign (.tmp 9), none, false, [], false⟩]))))))
 (.seq (.reg false [⟨some 2, .assign (.const (.bool false)), none, false, [], false⟩])
 .ret)))
noncomputable def fi121 : FI := ⟨c121, 14, [.tmp 2], .plain⟩
noncomputable def c122 : XC :=
 (.seq (.reg false [⟨some 2, .box 36 (.tmp 0), none, false, [], false⟩,
 ⟨some 4, .assign (.const (.slice none 0 0)), none, false, [], false⟩])
 (.seq (.reg false [⟨some 8, .move (.tmp 1), none, false, [], false⟩,
 ⟨some 9, .call ⟨.builtin .len, #[.tmp 8], #[56]⟩, none, false, [], false⟩,
 ⟨some 10, .makeSlice 56 (.tmp 9) (.tmp 9), none, false, [], false⟩,
 ⟨some 5, .assign (.tmp 10), none, false, [], false⟩])
 (.seq (.seq
 (.reg false [⟨some 6, .assign (.const (.int .i64 0)), none, false, [], false⟩])
 (.block 0
 (.loop (.seq (.seq
 (.reg false [⟨some 11, .move (.tmp 6), none, false, [], false⟩,
 ⟨some 12, .move (.tmp 1), none, false, [], false⟩,
 ⟨some 13, .call ⟨.builtin .len, #[.tmp 12], #[56]⟩, none, false, [], false⟩,
 ⟨some 14, .binOp .lss 3 (.tmp 11) (.tmp 13) 3, none, false, [], false⟩])
 (.cond (.tmp 14)
 .skip
 (.exit 0)))
 (.seq (.block 1
 (.seq (.reg false [⟨some 7, .assign (.const (.int .i64 0)), none, false, [], false⟩])
 (.block 2
 (.loop (.seq (.seq
 (.reg false [⟨some 17, .move (.tmp 7), none, false, [], false⟩,
 ⟨some 18, .move (.tmp 1), none, false, [], false⟩,
 ⟨some 19, .call ⟨.builtin .len, #[.tmp 18], #[56]⟩, none, false, [], false⟩,
 ⟨some 20, .binOp .lss 3 (.tmp 17) (.tmp 19) 3, none, false, [], false⟩])
 (.cond (.tmp 20)
 .skip
 (.exit 2)))
 (.seq (.block 3
 (.reg false [⟨some 23, .move (.tmp 5), none, false, [], false⟩,
 ⟨some 24, .move (.tmp 7), none, false, [], false⟩,
 ⟨some 25, .move (.tmp 5), none, false, [], false⟩,
 ⟨some 26, .move (.tmp 7), none, false, [], false⟩,
 ⟨some 27, .indexAddr 56 (.tmp 25) (.tmp 26), none, false, [], false⟩,
 ⟨some 28, .load 4 (.tmp 27), none, false, [], false⟩,
 ⟨some 29, .move (.tmp 28), none, false, [], false⟩,
 ⟨some 30, .move (.tmp 1), some (some 29, false), false, [], false⟩,
 ⟨some 31, .move (.tmp 6), some (some 29, false), false, [], false⟩,
 ⟨some 32, .indexAddr 56 (.tmp 30) (.tmp 31), some (some 29, false), false, [], false⟩,
 ⟨some 33, .load 4 (.tmp 32), some (some 29, false), false, [], false⟩,
 ⟨some 34, .move (.tmp 33), some (some 29, false), false, [], false⟩,
 ⟨some 35, .load 36 (.tmp 2), some (some 34, true), false, [], false⟩,
 ⟨some 36, .move (.tmp 6), some (some 34, true), false, [], false⟩,
 ⟨some 37, .move (.tmp 7), some (some 34, true), false, [], false⟩,
 ⟨some 38, .call ⟨.value (.func 168), #[.tmp 35, .tmp 36, .tmp 37], #[36, 3, 3]⟩, some (some 34, true), false, [], false⟩,
 ⟨some 39, .pick (.tmp 34) (.tmp 38) (.const (.bool false)), some (some 29, false), false, [], false⟩,
 ⟨some 40, .pick (.tmp 29) (.const (.bool true)) (.tmp 39), none, false, [], false⟩,
 ⟨some 41, .indexAddr 56 (.tmp 23) (.tmp 24), none, false, [], false⟩,
 ⟨none, .store 4 (.tmp 41) (.tmp 40), none, false, [], false⟩]))
 (.reg false [⟨some 21, .move (.tmp 7), none, false, [], false⟩,
 ⟨some 22, .binOp .add 3 (.tmp 21) (.const (.int .i64 1)) 3, none, false, [], false⟩,
 ⟨some 7, .assign (.tmp 22), none, false, [], false⟩])))))))
 (.reg false [⟨some 15, .move (.tmp 6), none, false, [], false⟩,
 ⟨some 16, .binOp .add 3 (.tmp 15) (.const (.int .i64 1)) 3, none, false, [], false⟩,
 ⟨some 6, .assign (.tmp 16), none, false, [], false⟩]))))))
 (.seq (.reg false [⟨some 42, .move (.tmp 5), none, false, [], false⟩,
 ⟨some 4, .assign (.tmp 42), none, false, [], false⟩])
 .ret))))
noncomputable def fi122 : FI := ⟨c122, 43, [.tmp 4], .plain⟩
noncomputable def c123 : XC :=
 (.seq (.seq
 (.reg false [⟨some 8, .move (.tmp 2), none, false, [], false⟩,
 ⟨some 9, .move (.tmp 1), none, false, [], false⟩,
 ⟨some 10, .indexAddr 56 (.tmp 8) (.tmp 9), none, false, [], false⟩,
 ⟨some 11, .load 4 (.tmp 10), none, false, [], false⟩])
 (.cond (.tmp 11)
 .ret
 .skip))
 (.seq (.reg false [⟨some 12, .move (.tmp 2), none, false, [], false⟩,
 ⟨some 13, .move (.tmp 1), none, false, [], false⟩,
 ⟨some 14, .indexAddr 56 (.tmp 12) (.tmp 13), none, false, [], false⟩,
 ⟨none, .store 4 (.tmp 14) (.const (.bool true)), none, false, [], false⟩])
 (.seq (.reg false [⟨some 15, .move (.tmp 0), none, false, [], false⟩,
 ⟨some 16, .move (.tmp 1), none, false, [], false⟩,
 ⟨some 17, .indexAddr 88 (.tmp 15) (.tmp 16), none, false, [], false⟩,
 ⟨some 18, .load 22 (.tmp 17), none, false, [], false⟩,
 ⟨some 19, .call ⟨.builtin .len, #[.tmp 18], #[22]⟩, none, false, [], false⟩,
 ⟨some 20, .move (.const (.int .i64 0)), none, false, [], false⟩])
 (.block 0
 (.loop (.seq (.reg false [⟨some 21, .binOp .lss 3 (.tmp 20) (.tmp 19) 3, none, false, [], false⟩])
 (.seq (.cond (.tmp 21)
 .skip
 (.exit 0))
 (.seq (.block 1
 (.seq (.reg false [⟨some 22, .indexAddr 22 (.tmp 18) (.tmp 20), none, false, [], false⟩,
 ⟨some 23, .load 3 (.tmp 22), none, false, [], false⟩,
 ⟨some 7, .assign (.tmp 23), none, false, [], false⟩])
 (.reg false [⟨some 24, .move (.tmp 0), none, false, [], false⟩,
 ⟨some 25, .move (.tmp 7), none, false, [], false⟩,
 ⟨some 26, .move (.tmp 2), none, false, [], false⟩,
 ⟨some 27, .call ⟨.value (.func 123), #[.tmp 24, .tmp 25, .tmp 26], #[88, 3, 56]⟩, none, false, [], false⟩])))
 (.reg false [⟨some 28, .binOp .add 3 (.tmp 20) (.const (.int .i64 1)) 3, none, false, [], false⟩,
 ⟨some 20, .move (.tmp 28), none, false, [], false⟩])))))))))
noncomputable def fi123 : FI := ⟨c123, 29, [], .plain⟩
noncomputable def c124 : XC :=
 (.seq (.reg false [⟨some 1, .box 25 (.tmp 0), none, false, [], false⟩,
 ⟨some 2, .alloc 25, none, false, [], false⟩])
 (.seq (.reg true [⟨some 6, .fieldAddr 25 (.tmp 1) 3, none, false, [], false⟩,
 ⟨some 7, .load 22 (.tmp 6), none, false, [], false⟩,
 ⟨some 8, .call ⟨.value (.func 51), #[.tmp 7], #[22]⟩, none, true, [false, false, true, true, true, true, true], false⟩,
 ⟨some 9, .fieldAddr 25 (.tmp 1) 4, none, false, [], false⟩,
 ⟨some 10, .load 23 (.tmp 9), none, false, [], true⟩,
 ⟨some 11, .call ⟨.value (.func 52), #[.tmp 10], #[23]⟩, none, false, [false, true, true, true], false⟩,
 ⟨some 12, .fieldAddr 25 (.tmp 1) 3, none, false, [], false⟩,
 ⟨none, .store 22 (.tmp 12) (.tmp 8), none, false, [true, true], false⟩,
 ⟨some 13, .fieldAddr 25 (.tmp 1) 4, none, false, [], false⟩,
 ⟨none, .store 23 (.tmp 13) (.tmp 11), none, false, [], false⟩])
 (.seq (.seq
 (.reg false [⟨some 14, .fieldAddr 25 (.tmp 1) 4, none, false, [], false⟩,
 ⟨some 15, .load 23 (.tmp 14), none, false, [], false⟩,
 ⟨some 16, .call ⟨.builtin .len, #[.tmp 15], #[23]⟩, none, false, [], false⟩,
 ⟨some 17, .move (.const (.int .i64 0)), none, false, [], false⟩])
 (.block 0
 (.loop (.seq (.reg false [⟨some 18, .binOp .lss 3 (.tmp 17) (.tmp 16) 3, none, false, [], false⟩])
 (.seq (.cond (.tmp 18)
 .skip
 (.exit 0))
 (.seq (.block 1
 (.seq (.reg false [⟨some 19, .move (.tmp 17), none, false, [], false⟩,
 ⟨some 3, .assign (.tmp 19), none, false, [], false⟩])
 (.seq (.reg false [⟨some 20, .fieldAddr 25 (.tmp 1) 4, none, false, [], false⟩,
 ⟨some 21, .load 23 (.tmp 20), none, false, [], false⟩,
 ⟨some 22, .move (.tmp 3), none, false, [], false⟩,
 ⟨some 23, .indexAddr 23 (.tmp 21) (.tmp 22), none, false, [], false⟩,
 ⟨some 4, .assign (.tmp 23), none, false, [], false⟩])
 (.seq (.reg false [⟨some 24, .move (.tmp 4), none, false, [], false⟩,
 ⟨some 25, .move (.tmp 4), none, false, [], false⟩,
 ⟨some 26, .nilCheck (.tmp 25), none, false, [], false⟩,
 ⟨some 27, .fieldAddr 49 (.tmp 26) 0, none, false, [], false⟩,
 ⟨some 28, .load 47 (.tmp 27), none, false, [], false⟩,
 ⟨some 29, .call ⟨.value (.func 53), #[.tmp 28], #[47]⟩, none, false, [], false⟩,
 ⟨some 30, .nilCheck (.tmp 24), none, false, [], false⟩,
 ⟨some 31, .fieldAddr 49 (.tmp 30) 0, none, false, [], false⟩,
 ⟨none, .store 47 (.tmp 31) (.tmp 29), none, false, [], false⟩])
 (.seq (.reg false [⟨some 32, .move (.tmp 4), none, false, [], false⟩,
 ⟨some 33, .nilCheck (.tmp 32), none, false, [], false⟩,
 ⟨some 34, .fieldAddr 49 (.tmp 33) 0, none, false, [], false⟩,
 ⟨some 35, .load 47 (.tmp 34), none, false, [], false⟩,
 ⟨some 36, .call ⟨.builtin .len, #[.tmp 35], #[47]⟩, none, false, [], false⟩,
 ⟨some 37, .move (.const (.int .i64 0)), none, false, [], false⟩])
 (.block 2
 (.loop (.seq (.reg false [⟨some 38, .binOp .lss 3 (.tmp 37) (.tmp 36) 3, none, false, [], false⟩])
 (.seq (.cond (.tmp 38)
 .skip
 (.exit 2))
 (.seq (.block 3
 (.seq (.reg false [⟨some 39, .move (.tmp 37), none, false, [], false⟩,
 ⟨some 5, .assign (.tmp 39), none, false, [], false⟩])
 (.reg true [⟨some 45, .move (.tmp 4), none, false, [], false⟩,
 ⟨some 46, .nilCheck (.tmp 45), none, false, [], false⟩,
 ⟨some 47, .fieldAddr 49 (.tmp 46) 0, none, false, [], false⟩,
 ⟨some 48, .load 47 (.tmp 47), none, false, [], false⟩,
 ⟨some 49, .move (.tmp 5), none, false, [], false⟩,
 ⟨some 50, .indexAddr 47 (.tmp 48) (.tmp 49), none, false, [], false⟩,
 ⟨some 51, .fieldAddr 46 (.tmp 50) 7, none, false, [], false⟩,
 ⟨some 52, .load 22 (.tmp 51), none, false, [], false⟩,
 ⟨some 53, .call ⟨.value (.func 51), #[.tmp 52], #[22]⟩, none, true, [false, false, false, false, false, true, true, true], false⟩,
 ⟨some 40, .move (.tmp 4), none, false, [], false⟩,
 ⟨some 41, .nilCheck (.tmp 40), none, false, [], false⟩,
 ⟨some 42, .fieldAddr 49 (.tmp 41) 0, none, false, [], false⟩,
 ⟨some 43, .load 47 (.tmp 42), none, false, [], true⟩,
 ⟨some 44, .move (.tmp 5), none, false, [], false⟩,
 ⟨some 54, .indexAddr 47 (.tmp 43) (.tmp 44), none, false, [], false⟩,
 ⟨some 55, .fieldAddr 46 (.tmp 54) 7, none, false, [], false⟩,
 ⟨none, .store 22 (.tmp 55) (.tmp 53), none, false, [], false⟩])))
 (.reg false [⟨some 56, .binOp .add 3 (.tmp 37) (.const (.int .i64 1)) 3, none, false, [], false⟩,
 ⟨some 37, .move (.tmp 56), none, false, [], false⟩])))))))))))
 (.reg false [⟨some 57, .binOp .add 3 (.tmp 17) (.const (.int .i64 1)) 3, none, false, [], false⟩,
 ⟨some 17, .move (.tmp 57), none, false, [], false⟩])))))))
 (.seq (.reg false [⟨some 58, .load 25 (.tmp 1), none, false, [], false⟩,
 ⟨none, .store 25 (.tmp 2) (.tmp 58), none, false, [], false⟩])
 .ret))))
noncomputable def fi124 : FI := ⟨c124, 59, [.cell 2 25], .plain⟩
noncomputable def c125 : XC :=
 (.seq (.reg false [⟨some 1, .box 36 (.tmp 0), none, false, [], false⟩,
 ⟨some 2, .assign (.const (.slice none 0 0)), none, false, [], false⟩])
 (.seq (.reg false [⟨some 7, .fieldAddr 36 (.tmp 1) 1, none, false, [], false⟩,
 ⟨some 8, .load 33 (.tmp 7), none, false, [], false⟩,
 ⟨some 9, .call ⟨.builtin .len, #[.tmp 8], #[33]⟩, none, false, [], false⟩,
 ⟨some 10, .makeSlice 56 (.tmp 9) (.tmp 9), none, false, [], false⟩,
 ⟨some 3, .assign (.tmp 10), none, false, [], false⟩])
 (.seq (.reg false [⟨some 11, .move (.tmp 3), none, false, [], false⟩,
 ⟨some 12, .load 36 (.tmp 1), none, false, [], false⟩,
 ⟨some 13, .call ⟨.value (.func 120), #[.tmp 12], #[36]⟩, none, false, [], false⟩,
 ⟨some 14, .indexAddr 56 (.tmp 11) (.tmp 13), none, false, [], false⟩,
 ⟨none, .store 4 (.tmp 14) (.const (.bool true)), none, false, [], false⟩])
 (.seq (.seq
 (.reg false [⟨some 4, .assign (.const (.int .i64 0)), none, false, [], false⟩])
 (.block 0
 (.loop (.seq (.seq
 (.reg false [⟨some 15, .move (.tmp 4), none, false, [], false⟩,
 ⟨some 16, .fieldAddr 36 (.tmp 1) 1, none, false, [], false⟩,
 ⟨some 17, .load 33 (.tmp 16), none, false, [], false⟩,
 ⟨some 18, .call ⟨.builtin .len, #[.tmp 17], #[33]⟩, none, false, [], false⟩,
 ⟨some 19, .binOp .lss 3 (.tmp 15) (.tmp 18) 3, none, false, [], false⟩])
 (.cond (.tmp 19)
 .skip
 (.exit 0)))
 (.seq (.block 1
 (.seq (.reg false [⟨some 22, .load 36 (.tmp 1), none, false, [], false⟩,
 ⟨some 23, .move (.tmp 3), none, false, [], false⟩,
 ⟨some 24, .call ⟨.value (.func 122), #[.tmp 22, .tmp 23], #[36, 56]⟩, none, false, [], false⟩,
 ⟨some 5, .assign (.tmp 24), none, false, [], false⟩])
 (.seq (.reg false [⟨some 6, .assign (.const (.int .i64 0)), none, false, [], false⟩])
 (.block 2
 (.loop (.seq (.seq
 (.reg false [⟨some 25, .move (.tmp 6), none, false, [], false⟩,
 ⟨some 26, .move (.tmp 3), none, false, [], false⟩,
 ⟨some 27, .call ⟨.builtin .len, #[.tmp 26], #[56]⟩, none, false, [], false⟩,
 ⟨some 28, .binOp .lss 3 (.tmp 25) (.tmp 27) 3, none, false, [], false⟩])
 (.cond (.tmp 28)
 .skip
 (.exit 2)))
 (.seq (.block 3
 (.reg false [⟨some 31, .move (.tmp 3), none, false, [], false⟩,
 ⟨some 32, .move (.tmp 6), none, false, [], false⟩,
 ⟨some 33, .move (.tmp 3), none, false, [], false⟩,
 ⟨some 34, .move (.tmp 6), none, false, [], false⟩,
 ⟨some 35, .indexAddr 56 (.tmp 33) (.tmp 34), none, false, [], false⟩,
 ⟨some 36, .load 4 (.tmp 35), none, false, [], false⟩,
 ⟨some 37, .move (.tmp 36), none, false, [], false⟩,
 ⟨some 38, .move (.tmp 5), some (some 37, false), false, [], false⟩,
 ⟨some 39, .move (.tmp 6), some (some 37, false), false, [], false⟩,
 ⟨some 40, .indexAddr 56 (.tmp 38) (.tmp 39), some (some 37, false), false, [], false⟩,
 ⟨some 41, .load 4 (.tmp 40), some (some 37, false), false, [], false⟩,
 ⟨some 42, .pick (.tmp 37) (.const (.bool true)) (.tmp 41), none, false, [], false⟩,
 ⟨some 43, .indexAddr 56 (.tmp 31) (.tmp 32), none, false, [], false⟩,
 ⟨none, .store 4 (.tmp 43) (.tmp 42), none, false, [], false⟩]))
 (.reg false [⟨some 29, .move (.tmp 6), none, false, [], false⟩,
 ⟨some 30, .binOp .add 3 (.tmp 29) (.const (.int .i64 1)) 3, none, false, [], false⟩,
 ⟨some 6, .assign (.tmp 30), none, false, [], false⟩]))))))))
 (.reg false [⟨some 20, .move (.tmp 4), none, false, [], false⟩,
 ⟨some 21, .binOp .add 3 (.tmp 20) (.const (.int .i64 1)) 3, none, false, [], false⟩,
 ⟨some 4, .assign (.tmp 21), none, false, [], false⟩]))))))
 (.seq (.reg false [⟨some 44, .move (.tmp 3), none, false, [], false⟩,
 ⟨some 2, .assign (.tmp 44), none, false, [], false⟩])
 .ret)))))
noncomputable def fi125 : FI := ⟨c125, 45, [.tmp 2], .plain⟩
noncomputable def c126 : XC :=
 (.seq (.reg false [⟨some 2, .assign (.const (.int .i64 0)), none, false, [], false⟩])
 (.block 0
 (.loop (.seq (.seq
 (.reg false [⟨some 3, .move (.tmp 2), none, false, [], false⟩,
 ⟨some 4, .move (.tmp 0), none, false, [], false⟩,
 ⟨some 5, .call ⟨.builtin .len, #[.tmp 4], #[34]⟩, none, false, [], false⟩,
 ⟨some 6, .binOp .lss 3 (.tmp 3) (.tmp 5) 3, none, false, [], false⟩])
 (.cond (.tmp 6)
 .skip
 (.exit 0)))
 (.seq (.block 1
 (.reg false [⟨some 9, .move (.tmp 0), none, false, [], false⟩,
 ⟨some 10, .move (.tmp 2), none, false, [], false⟩,
 ⟨some 11, .move (.tmp 2), none, false, [], false⟩,
 ⟨some 12, .binOp .add 3 (.tmp 11) (.const (.int .i64 7)) 3, none, false, [], false⟩,
 ⟨some 13, .call ⟨.value (.func 169), #[.tmp 12], #[3]⟩, none, false, [], false⟩,
 ⟨some 14, .indexAddr 34 (.tmp 9) (.tmp 10), none, false, [], false⟩,
 ⟨none, .store 105 (.tmp 14) (.tmp 13), none, false, [], false⟩]))
 (.reg false [⟨some 7, .move (.tmp 2), none, false, [], false⟩,
 ⟨some 8, .binOp .add 3 (.tmp 7) (.const (.int .i64 1)) 3, none, false, [], false⟩,
 ⟨some 2, .assign (.tmp 8), none, false, [], false⟩]))))))
noncomputable def fi126 : FI := ⟨c126, 15, [], .plain⟩
noncomputable def c127 : XC :=
 (.seq (.reg false [⟨some 2, .assign (.const (.int .i64 0)), none, false, [], false⟩])
 (.block 0
 (.loop (.seq (.seq
 (.reg false [⟨some 3, .move (.tmp 2), none, false, [], false⟩,
 ⟨some 4, .move (.tmp 0), none, false, [], false⟩,
 ⟨some 5, .call ⟨.builtin .len, #[.tmp 4], #[33]⟩, none, false, [], false⟩,
 ⟨some 6, .binOp .lss 3 (.tmp 3) (.tmp 5) 3, none, false, [], false⟩])
 (.cond (.tmp 6)
 .skip
 (.exit 0)))
 (.seq (.block 1
 (.reg false [⟨some 9, .move (.tmp 0), none, false, [], false⟩,
 ⟨some 10, .move (.tmp 2), none, false, [], false⟩,
 ⟨some 11, .move (.tmp 2), none, false, [], false⟩,
 ⟨some 12, .binOp .add 3 (.tmp 11) (.const (.int .i64 7)) 3, none, false, [], false⟩,
 ⟨some 13, .call ⟨.value (.func 170), #[.tmp 12], #[3]⟩, none, false, [], false⟩,
 ⟨some 14, .indexAddr 33 (.tmp 9) (.tmp 10), none, false, [], false⟩,
 ⟨none, .store 25 (.tmp 14) (.tmp 13), none, false, [], false⟩]))
 (.reg false [⟨some 7, .move (.tmp 2), none, false, [], false⟩,
 ⟨some 8, .binOp .add 3 (.tmp 7) (.const (.int .i64 1)) 3, none, false, [], false⟩,
 ⟨some 2, .assign (.tmp 8), none, false, [], false⟩]))))))
noncomputable def fi127 : FI := ⟨c127, 15, [], .plain⟩
noncomputable def c131 : XC :=
 (.seq (.reg false [⟨some 1, .box 46 (.tmp 0), none, false, [], false⟩,
 ⟨some 2, .assign (.const (.slice none 0 0)), none, false, [], false⟩])
 (.seq (.seq
 (.reg false [⟨some 3, .fieldAddr 46 (.tmp 1) 0, none, false, [], false⟩,
 ⟨some 4, .load 3 (.tmp 3), none, false, [], false⟩])
 (.block 0
 (.seq (.seq
 (.reg false [⟨some 6, .binOp .eql 3 (.tmp 4) (.const (.int .i64 2)) 3, none, false, [], false⟩,
 ⟨some 5, .assign (.tmp 6), none, false, [], false⟩])
 (.cond (.tmp 5)
 .skip
 (.seq (.reg false [⟨some 7, .binOp .eql 3 (.tmp 4) (.const (.int .i64 4)) 3, none, false, [], false⟩,
 ⟨some 5, .assign (.tmp 7), none, false, [], false⟩])
 (.cond (.tmp 5)
 .skip
 (.seq (.reg false [⟨some 8, .binOp .eql 3 (.tmp 4) (.const (.int .i64 5)) 3, none, false, [], false⟩,
 ⟨some 5, .assign (.tmp 8), none, false, [], false⟩])
 (.cond (.tmp 5)
 .skip
 (.seq (.reg false [⟨some 9, .binOp .eql 3 (.tmp 4) (.const (.int .i64 8)) 3, none, false, [], false⟩,
 ⟨some 5, .assign (.tmp 9), none, false, [], false⟩])
 (.cond (.tmp 5)
 .skip
 (.reg false [⟨some 10, .binOp .eql 3 (.tmp 4) (.const (.int .i64 11)) 3, none, false, [], false⟩,
 ⟨some 5, .assign (.tmp 10), none, false, [], false⟩])))))))))
 (.cond (.tmp 5)
 (.seq (.reg false [⟨some 11, .fieldAddr 46 (.tmp 1) 3, none, false, [], false⟩,
 ⟨some 12, .load 3 (.tmp 11), none, false, [], false⟩,
 ⟨some 13, .buildSlice 22 1 #[(0, .tmp 12)], none, false, [], false⟩,
 ⟨some 2, .assign (.tmp 13), none, false, [], false⟩])
 .ret)
 (.seq (.seq
 (.reg false [⟨some 15, .binOp .eql 3 (.tmp 4) (.const (.int .i64 3)) 3, none, false, [], false⟩,
 ⟨some 14, .assign (.tmp 15), none, false, [], false⟩])
 (.cond (.tmp 14)
 .skip
 (.reg false [⟨some 16, .binOp .eql 3 (.tmp 4) (.const (.int .i64 6)) 3, none, false, [], false⟩,
 ⟨some 14, .assign (.tmp 16), none, false, [], false⟩])))
 (.cond (.tmp 14)
 (.seq (.reg false [⟨some 17, .fieldAddr 46 (.tmp 1) 3, none, false, [], false⟩,
 ⟨some 18, .load 3 (.tmp 17), none, false, [], false⟩,
 ⟨some 19, .fieldAddr 46 (.tmp 1) 4, none, false, [], false⟩,
 ⟨some 20, .load 3 (.tmp 19), none, false, [], false⟩,
 ⟨some 21, .buildSlice 22 2 #[(0, .tmp 18), (1, .tmp 20)], none, false, [], false⟩,
 ⟨some 2, .assign (.tmp 21), none, false, [], false⟩])
 .ret)
 (.seq (.reg false [⟨some 23, .binOp .eql 3 (.tmp 4) (.const (.int .i64 9)) 3, none, false, [], false⟩,
 ⟨some 22, .assign (.tmp 23), none, false, [], false⟩])
 (.cond (.tmp 22)
 (.seq (.reg false [⟨some 24, .fieldAddr 46 (.tmp 1) 7, none, false, [], false⟩,
 ⟨some 25, .load 22 (.tmp 24), none, false, [], false⟩,
 ⟨some 26, .call ⟨.value (.func 51), #[.tmp 25], #[22]⟩, none, false, [], false⟩,
 ⟨some 2, .assign (.tmp 26), none, false, [], false⟩])
 .ret)
 .skip))))))))
 (.seq (.reg false [⟨some 2, .assign (.const (.slice none 0 0)), none, false, [], false⟩])
 .ret)))
noncomputable def fi131 : FI := ⟨c131, 27, [.tmp 2], .plain⟩
noncomputable def c136 : XC :=
 (.seq (.reg false [⟨some 4, .assign (.const (.bool false)), none, false, [], false⟩])
 (.seq (.reg false [⟨some 5, .move (.tmp 0), none, false, [], false⟩,
 ⟨some 6, .move (.tmp 1), none, false, [], false⟩,
 ⟨some 7, .call ⟨.value (.func 175), #[.tmp 5, .tmp 6], #[22, 99]⟩, none, false, [], false⟩,
 ⟨some 8, .binOp .geq 3 (.tmp 7) (.const (.int .i64 0)) 3, none, false, [], false⟩,
 ⟨some 4, .assign (.tmp 8), none, false, [], false⟩])
 .ret))
noncomputable def fi136 : FI := ⟨c136, 9, [.tmp 4], .plain⟩
noncomputable def c137 : XC :=
 (.seq (.reg false [⟨some 2, .assign (.const (.bool false)), none, false, [], false⟩])
 (.seq (.reg false [⟨some 3, .move (.tmp 0), none, false, [], false⟩,
 ⟨some 4, .call ⟨.value (.func 86), #[.tmp 3], #[3]⟩, none, false, [], false⟩,
 ⟨some 5, .unOp .not 4 (.tmp 4), none, false, [], false⟩,
 ⟨some 2, .assign (.tmp 5), none, false, [], false⟩])
 .ret))
noncomputable def fi137 : FI := ⟨c137, 6, [.tmp 2], .plain⟩
noncomputable def c138 : XC :=
 (.seq (.reg false [⟨some 2, .box 107 (.tmp 0), none, false, [], false⟩,
 ⟨some 3, .box 46 (.tmp 1), none, false, [], false⟩,
 ⟨some 4, .assign (.const (.int .i64 0)), none, false, [], false⟩])
 (.seq (.block 0
 (.seq (.reg false [⟨some 6, .load 46 (.tmp 3), none, false, [], false⟩,
 ⟨some 7, .call ⟨.value (.func 176), #[.tmp 6], #[46]⟩, none, false, [], false⟩,
 ⟨some 8, .unOp .not 4 (.tmp 7), none, false, [], false⟩,
 ⟨some 5, .assign (.tmp 8), none, false, [], false⟩])
 (.cond (.tmp 5)
 (.seq (.reg false [⟨some 4, .assign (.const (.int .i64 2)), none, false, [], false⟩])
 .ret)
 (.seq (.reg false [⟨some 10, .load 107 (.tmp 2), none, false, [], false⟩,
 ⟨some 11, .load 46 (.tmp 3), none, false, [], false⟩,
 ⟨some 12, .call ⟨.value (.func 177), #[.tmp 10, .tmp 11], #[107, 46]⟩, none, false, [], false⟩,
 ⟨some 13, .unOp .not 4 (.tmp 12), none, false, [], false⟩,
 ⟨some 9, .assign (.tmp 13), none, false, [], false⟩])
 (.cond (.tmp 9)
 (.seq (.reg false [⟨some 4, .assign (.const (.int .i64 11)), none, false, [], false⟩])
 .ret)
 (.seq (.reg true [⟨some 15, .fieldAddr 46 (.tmp 3) 0, none, false, [], false⟩,
 ⟨some 16, .load 3 (.tmp 15), none, false, [], false⟩,
 ⟨some 17, .binOp .eql 3 (.tmp 16) (.const (.int .i64 9)) 3, none, false, [], false⟩,
 ⟨some 18, .move (.tmp 17), none, false, [], false⟩,
 ⟨some 19, .fieldAddr 46 (.tmp 3) 7, some (some 18, true), false, [], false⟩,
 ⟨some 20, .load 22 (.tmp 19), some (some 18, true), false, [], false⟩,
 ⟨some 21, .call ⟨.builtin .len, #[.tmp 20], #[22]⟩, some (some 18, true), false, [], false⟩,
 ⟨some 22, .fieldAddr 107 (.tmp 2) 0, some (some 18, true), false, [], false⟩,
 ⟨some 23, .fieldAddr 36 (.tmp 22) 1, some (some 18, true), false, [], false⟩,
 ⟨some 24, .load 33 (.tmp 23), some (some 18, true), false, [], false⟩,
 ⟨some 25, .fieldAddr 46 (.tmp 3) 5, some (some 18, true), false, [], false⟩,
 ⟨some 26, .load 3 (.tmp 25), some (some 18, true), false, [], false⟩,
 ⟨some 27, .indexAddr 33 (.tmp 24) (.tmp 26), some (some 18, true), false, [], false⟩,
 ⟨some 28, .fieldAddr 25 (.tmp 27) 2, some (some 18, true), false, [], false⟩,
 ⟨some 29, .load 3 (.tmp 28), some (some 18, true), false, [], false⟩,
 ⟨some 30, .binOp .neq 3 (.tmp 21) (.tmp 29) 3, some (some 18, true), false, [], false⟩,
 ⟨some 31, .pick (.tmp 18) (.tmp 30) (.const (.bool false)), none, false, [], false⟩,
 ⟨some 14, .assign (.tmp 31), none, false, [], false⟩])
 (.cond (.tmp 14)
 (.seq (.reg false [⟨some 4, .assign (.const (.int .i64 7)), none, false, [], false⟩])
 .ret)
 (.seq (.reg false [⟨some 33, .load 107 (.tmp 2), none, false, [], false⟩,
 ⟨some 34, .load 46 (.tmp 3), none, false, [], false⟩,
 ⟨some 35, .call ⟨.value (.func 178), #[.tmp 33, .tmp 34], #[107, 46]⟩, none, false, [], false⟩,
 ⟨some 36, .unOp .not 4 (.tmp 35), none, false, [], false⟩,
 ⟨some 32, .assign (.tmp 36), none, false, [], false⟩])
 (.cond (.tmp 32)
 (.seq (.reg false [⟨some 4, .assign (.const (.int .i64 6)), none, false, [], false⟩])
 .ret)
 .skip)))))))))
 (.seq (.reg false [⟨some 4, .assign (.const (.int .i64 0)), none, false, [], false⟩])
 .ret)))
noncomputable def fi138 : FI := ⟨c138, 37, [.tmp 4], .plain⟩
noncomputable def c139 : XC :=
 (.seq (.reg false [⟨some 2, .box 107 (.tmp 0), none, false, [], false⟩,
 ⟨some 3, .box 29 (.tmp 1), none, false, [], false⟩,
 ⟨some 4, .assign (.const (.int .i64 0)), none, false, [], false⟩])
 (.seq (.reg true [⟨some 9, .fieldAddr 107 (.tmp 2) 1, none, false, [], false⟩,
 ⟨some 10, .fieldAddr 25 (.tmp 9) 4, none, false, [], false⟩,
 ⟨some 11, .load 23 (.tmp 10), none, false, [], false⟩,
 ⟨some 12, .call ⟨.builtin .len, #[.tmp 11], #[23]⟩, none, false, [], false⟩,
 ⟨some 13, .fieldAddr 107 (.tmp 2) 1, none, false, [], false⟩,
 ⟨some 14, .fieldAddr 25 (.tmp 13) 3, none, false, [], false⟩,
 ⟨some 15, .load 22 (.tmp 14), none, false, [], false⟩,
 ⟨some 16, .call ⟨.builtin .len, #[.tmp 15], #[22]⟩, none, false, [], false⟩,
 ⟨some 5, .assign (.tmp 12), none, false, [], false⟩,
 ⟨some 6, .assign (.tmp 16), none, false, [], false⟩])
 (.seq (.reg false [⟨some 7, .assign (.const (.bool true)), none, false, [], false⟩,
 ⟨some 8, .assign (.const (.bool true)), none, false, [], false⟩])
 (.seq (.seq
 (.reg false [⟨some 17, .fieldAddr 29 (.tmp 3) 0, none, false, [], false⟩,
 ⟨some 18, .load 3 (.tmp 17), none, false, [], false⟩])
 (.block 0
 (.seq (.reg false [⟨some 20, .binOp .eql 3 (.tmp 18) (.const (.int .i64 1)) 3, none, false, [], false⟩,
 ⟨some 19, .assign (.tmp 20), none, false, [], false⟩])
 (.cond (.tmp 19)
 (.reg false [⟨some 21, .fieldAddr 29 (.tmp 3) 2, none, false, [], false⟩,
 ⟨some 22, .load 3 (.tmp 21), none, false, [], false⟩,
 ⟨some 23, .move (.tmp 5), none, false, [], false⟩,
 ⟨some 24, .call ⟨.value (.func 179), #[.tmp 22, .tmp 23], #[3, 3]⟩, none, false, [], false⟩,
 ⟨some 7, .assign (.tmp 24), none, false, [], false⟩])
 (.seq (.reg false [⟨some 26, .binOp .eql 3 (.tmp 18) (.const (.int .i64 2)) 3, none, false, [], false⟩,
 ⟨some 25, .assign (.tmp 26), none, false, [], false⟩])
 (.cond (.tmp 25)
 (.seq (.reg false [⟨some 27, .fieldAddr 29 (.tmp 3) 2, none, false, [], false⟩,
 ⟨some 28, .load 3 (.tmp 27), none, false, [], false⟩,
 ⟨some 29, .move (.tmp 5), none, false, [], false⟩,
 ⟨some 30, .call ⟨.value (.func 179), #[.tmp 28, .tmp 29], #[3, 3]⟩, none, false, [], false⟩,
 ⟨some 31, .move (.tmp 30), none, false, [], false⟩,
 ⟨some 32, .fieldAddr 29 (.tmp 3) 3, some (some 31, true), false, [], false⟩,
 ⟨some 33, .load 3 (.tmp 32), some (some 31, true), false, [], false⟩,
 ⟨some 34, .move (.tmp 5), some (some 31, true), false, [], false⟩,
 ⟨some 35, .call ⟨.value (.func 179), #[.tmp 33, .tmp 34], #[3, 3]⟩, some (some 31, true), false, [], false⟩,
 ⟨some 36, .pick (.tmp 31) (.tmp 35) (.const (.bool false)), none, false, [], false⟩,
 ⟨some 37, .move (.tmp 36), none, false, [], false⟩,
 ⟨some 38, .fieldAddr 29 (.tmp 3) 1, some (some 37, true), false, [], false⟩,
 ⟨some 39, .load 3 (.tmp 38), some (some 37, true), false, [], false⟩,
 ⟨some 40, .move (.tmp 6), some (some 37, true), false, [], false⟩,
 ⟨some 41, .call ⟨.value (.func 179), #[.tmp 39, .tmp 40], #[3, 3]⟩, some (some 37, true), false, [], false⟩,
 ⟨some 42, .pick (.tmp 37) (.tmp 41) (.const (.bool false)), none, false, [], false⟩,
 ⟨some 7, .assign (.tmp 42), none, false, [], false⟩])
 (.reg false [⟨some 43, .move (.tmp 7), none, false, [], false⟩,
 ⟨some 44, .move (.tmp 43), none, false, [], false⟩,
 ⟨some 45, .fieldAddr 107 (.tmp 2) 1, some (some 44, true), false, [], false⟩,
 ⟨some 46, .fieldAddr 25 (.tmp 45) 3, some (some 44, true), false, [], false⟩,
 ⟨some 47, .load 22 (.tmp 46), some (some 44, true), false, [], false⟩,
 ⟨some 48, .fieldAddr 29 (.tmp 3) 1, some (some 44, true), false, [], false⟩,
 ⟨some 49, .load 3 (.tmp 48), some (some 44, true), false, [], false⟩,
 ⟨some 50, .indexAddr 22 (.tmp 47) (.tmp 49), some (some 44, true), false, [], false⟩,
 ⟨some 51, .load 3 (.tmp 50), some (some 44, true), false, [], false⟩,
 ⟨some 52, .binOp .eql 3 (.tmp 51) (.const (.int .i64 1)) 3, some (some 44, true), false, [], false⟩,
 ⟨some 53, .pick (.tmp 44) (.tmp 52) (.const (.bool false)), none, false, [], false⟩,
 ⟨some 8, .assign (.tmp 53), none, false, [], false⟩]))
 (.seq (.reg false [⟨some 55, .binOp .eql 3 (.tmp 18) (.const (.int .i64 3)) 3, none, false, [], false⟩,
 ⟨some 54, .assign (.tmp 55), none, false, [], false⟩])
 (.cond (.tmp 54)
 (.seq (.reg false [⟨some 56, .fieldAddr 29 (.tmp 3) 1, none, false, [], false⟩,
 ⟨some 57, .load 3 (.tmp 56), none, false, [], false⟩,
 ⟨some 58, .binOp .lss 3 (.tmp 57) (.const (.int .i64 0)) 3, none, false, [], false⟩,
 ⟨some 59, .move (.tmp 58), none, false, [], false⟩,
 ⟨some 60, .fieldAddr 29 (.tmp 3) 1, some (some 59, false), false, [], false⟩,
 ⟨some 61, .load 3 (.tmp 60), some (some 59, false), false, [], false⟩,
 ⟨some 62, .move (.tmp 6), some (some 59, false), false, [], false⟩,
 ⟨some 63, .call ⟨.value (.func 179), #[.tmp 61, .tmp 62], #[3, 3]⟩, some (some 59, false), false, [], false⟩,
 ⟨some 64, .pick (.tmp 59) (.const (.bool true)) (.tmp 63), none, false, [], false⟩,
 ⟨some 7, .assign (.tmp 64), none, false, [], false⟩])
 (.reg true [⟨some 65, .move (.tmp 7), none, false, [], false⟩,
 ⟨some 66, .move (.tmp 65), none, false, [], false⟩,
 ⟨some 67, .fieldAddr 29 (.tmp 3) 1, some (some 66, true), false, [], false⟩,
 ⟨some 68, .load 3 (.tmp 67), some (some 66, true), false, [], false⟩,
 ⟨some 69, .binOp .lss 3 (.tmp 68) (.const (.int .i64 0)) 3, some (some 66, true), false, [], false⟩,
 ⟨some 70, .fieldAddr 107 (.tmp 2) 1, some (some 66, true), false, [], false⟩,
 ⟨some 71, .fieldAddr 25 (.tmp 70) 1, some (some 66, true), false, [], false⟩,
 ⟨some 72, .load 3 (.tmp 71), some (some 66, true), false, [], false⟩,
 ⟨some 73, .binOp .eql 3 (.tmp 72) (.const (.int .i64 0)) 3, some (some 66, true), false, [], false⟩,
 ⟨some 74, .binOp .eql 4 (.tmp 69) (.tmp 73) 4, some (some 66, true), false, [], false⟩,
 ⟨some 75, .pick (.tmp 66) (.tmp 74) (.const (.bool false)), none, false, [], false⟩,
 ⟨some 76, .move (.tmp 75), none, false, [], false⟩,
 ⟨some 77, .fieldAddr 29 (.tmp 3) 1, some (some 76, true), false, [], false⟩,
 ⟨some 78, .load 3 (.tmp 77), some (some 76, true), false, [], false⟩,
 ⟨some 79, .binOp .lss 3 (.tmp 78) (.const (.int .i64 0)) 3, some (some 76, true), false, [], false⟩,
 ⟨some 80, .move (.tmp 79), some (some 76, true), false, [], false⟩,
 ⟨some 81, .fieldAddr 107 (.tmp 2) 1, some (some 80, false), false, [], false⟩,
 ⟨some 82, .fieldAddr 25 (.tmp 81) 3, some (some 80, false), false, [], false⟩,
 ⟨some 83, .load 22 (.tmp 82), some (some 80, false), false, [], false⟩,
 ⟨some 84, .fieldAddr 29 (.tmp 3) 1, some (some 80, false), false, [], false⟩,
 ⟨some 85, .load 3 (.tmp 84), some (some 80, false), false, [], false⟩,
 ⟨some 86, .indexAddr 22 (.tmp 83) (.tmp 85), some (some 80, false), false, [], false⟩,
 ⟨some 87, .load 3 (.tmp 86), some (some 80, false), false, [], false⟩,
 ⟨some 88, .fieldAddr 107 (.tmp 2) 1, some (some 80, false), false, [], false⟩,
 ⟨some 89, .fieldAddr 25 (.tmp 88) 1, some (some 80, false), false, [], false⟩,
 ⟨some 90, .load 3 (.tmp 89), some (some 80, false), false, [], false⟩,
 ⟨some 91, .binOp .eql 3 (.tmp 87) (.tmp 90) 3, some (some 80, false), false, [], false⟩,
 ⟨some 92, .pick (.tmp 80) (.const (.bool true)) (.tmp 91), some (some 76, true), false, [], false⟩,
 ⟨some 93, .pick (.tmp 76) (.tmp 92) (.const (.bool false)), none, false, [], false⟩,
 ⟨some 8, .assign (.tmp 93), none, false, [], false⟩]))
 (.seq (.reg false [⟨some 4, .assign (.const (.int .i64 2)), none, false, [], false⟩])
 .ret)))))))))
 (.seq (.block 1
 (.seq (.reg false [⟨some 95, .move (.tmp 7), none, false, [], false⟩,
 ⟨some 96, .unOp .not 4 (.tmp 95), none, false, [], false⟩,
 ⟨some 94, .assign (.tmp 96), none, false, [], false⟩])
 (.cond (.tmp 94)
 (.seq (.reg false [⟨some 4, .assign (.const (.int .i64 11)), none, false, [], false⟩])
 .ret)
 (.seq (.reg false [⟨some 98, .move (.tmp 8), none, false, [], false⟩,
 ⟨some 99, .unOp .not 4 (.tmp 98), none, false, [], false⟩,
 ⟨some 97, .assign (.tmp 99), none, false, [], false⟩])
 (.cond (.tmp 97)
 (.seq (.reg false [⟨some 4, .assign (.const (.int .i64 6)), none, false, [], false⟩])
 .ret)
 .skip)))))
 (.seq (.reg false [⟨some 4, .assign (.const (.int .i64 0)), none, false, [], false⟩])
 .ret))))))
noncomputable def fi139 : FI := ⟨c139, 100, [.tmp 4], .plain⟩
noncomputable def c140 : XC :=
 (.seq (.reg false [⟨some 1, .box 25 (.tmp 0), none, false, [], false⟩,
 ⟨some 2, .assign (.const (.bool false)), none, false, [], false⟩])
 (.seq (.reg false [⟨some 3, .fieldAddr 25 (.tmp 1) 0, none, false, [], false⟩,
 ⟨some 4, .load 9 (.tmp 3), none, false, [], false⟩,
 ⟨some 5, .binOp .eql 9 (.tmp 4) (.const (.string ⟨#[109, 97, 105, 110]⟩)) 9, none, false, [], false⟩,
 ⟨some 2, .assign (.tmp 5), none, false, [], false⟩])
 .ret))
noncomputable def fi140 : FI := ⟨c140, 6, [.tmp 2], .plain⟩
noncomputable def c147 : XC :=
 (.seq (.reg false [⟨some 2, .assign (.const (.slice none 0 0)), none, false, [], false⟩])
 (.seq (.reg false [⟨some 3, .assign (.const (.slice none 0 0)), none, false, [], false⟩])
 (.seq (.seq
 (.reg false [⟨some 4, .assign (.const (.int .i64 0)), none, false, [], false⟩])
 (.block 0
 (.loop (.seq (.seq
 (.reg false [⟨some 5, .move (.tmp 4), none, false, [], false⟩,
 ⟨some 6, .move (.tmp 0), none, false, [], false⟩,
 ⟨some 7, .call ⟨.builtin .len, #[.tmp 6], #[47]⟩, none, false, [], false⟩,
 ⟨some 8, .binOp .lss 3 (.tmp 5) (.tmp 7) 3, none, false, [], false⟩])
 (.cond (.tmp 8)
 .skip
 (.exit 0)))
 (.seq (.block 1
 (.reg false [⟨some 11, .move (.tmp 3), none, false, [], false⟩,
 ⟨some 12, .move (.tmp 0), none, false, [], false⟩,
 ⟨some 13, .move (.tmp 4), none, false, [], false⟩,
 ⟨some 14, .indexAddr 47 (.tmp 12) (.tmp 13), none, false, [], false⟩,
 ⟨some 15, .load 46 (.tmp 14), none, false, [], false⟩,
 ⟨some 16, .call ⟨.value (.func 189), #[.tmp 15], #[46]⟩, none, false, [], false⟩,
 ⟨some 17, .buildSlice 47 1 #[(0, .tmp 16)], none, false, [], false⟩,
 ⟨some 18, .call ⟨.builtin .append, #[.tmp 11, .tmp 17], #[47, 47]⟩, none, false, [], false⟩,
 ⟨some 3, .assign (.tmp 18), none, false, [], false⟩]))
 (.reg false [⟨some 9, .move (.tmp 4), none, false, [], false⟩,
 ⟨some 10, .binOp .add 3 (.tmp 9) (.const (.int .i64 1)) 3, none, false, [], false⟩,
 ⟨some 4, .assign (.tmp 10), none, false, [], false⟩]))))))
 (.seq (.reg false [⟨some 19, .move (.tmp 3), none, false, [], false⟩,
 ⟨some 2, .assign (.tmp 19), none, false, [], false⟩])
 .ret))))
noncomputable def fi147 : FI := ⟨c147, 20, [.tmp 2], .plain⟩
noncomputable def c154 : XC :=
 (.seq (.reg false [⟨some 2, .move (.tmp 0), none, false, [], false⟩,
 ⟨some 3, .binOp .neq 3 (.tmp 2) (.const (.int .i64 0)) 3, none, false, [], false⟩])
 (.cond (.tmp 3)
 (.reg false [⟨some 4, .move (.tmp 0), none, false, [], false⟩,
 ⟨some 5, .build 118 #[(0, .const (.int .i64 2)), (1, .tmp 4)], none, false, [], false⟩,
 ⟨some 6, .makeInterface 118 (.tmp 5), none, false, [], false⟩,
 ⟨none, .panic (.tmp 6), none, false, [], false⟩])
 .skip))
noncomputable def fi154 : FI := ⟨c154, 7, [], .plain⟩
noncomputable def c155 : XC :=
 (.seq (.seq
 (.reg false [⟨some 2, .move (.tmp 0), none, false, [], false⟩,
 ⟨some 3, .nilCheck (.tmp 2), none, false, [], false⟩,
 ⟨some 4, .fieldAddr 116 (.tmp 3) 2, none, false, [], false⟩,
 ⟨some 5, .load 3 (.tmp 4), none, false, [], false⟩,
 ⟨some 6, .binOp .lss 3 (.tmp 5) (.const (.int .i64 1)) 3, none, false, [], false⟩])
 (.cond (.tmp 6)
 (.reg false [⟨some 7, .build 118 #[(0, .const (.int .i64 3)), (1, .const (.int .i64 0))], none, false, [], false⟩,
 ⟨some 8, .makeInterface 118 (.tmp 7), none, false, [], false⟩,
 ⟨none, .panic (.tmp 8), none, false, [], false⟩])
 .skip))
 (.reg false [⟨some 9, .move (.tmp 0), none, false, [], false⟩,
 ⟨some 10, .nilCheck (.tmp 9), none, false, [], false⟩,
 ⟨some 11, .fieldAddr 116 (.tmp 10) 2, none, false, [], false⟩,
 ⟨some 12, .load 3 (.tmp 11), none, false, [], false⟩,
 ⟨some 13, .binOp .sub 3 (.tmp 12) (.const (.int .i64 1)) 3, none, false, [], false⟩,
 ⟨some 14, .nilCheck (.tmp 9), none, false, [], false⟩,
 ⟨some 15, .fieldAddr 116 (.tmp 14) 2, none, false, [], false⟩,
 ⟨none, .store 3 (.tmp 15) (.tmp 13), none, false, [], false⟩]))
noncomputable def fi155 : FI := ⟨c155, 16, [], .plain⟩
end Go.Proofs.AmEnv
