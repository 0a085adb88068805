/- The code of this program's functions, as the abstract machine goes over it. Conditions: none. -/
import Derived.Test.YtbgkdlhkmhpdcaaGreatAmSix
set_option maxRecDepth 100000
namespace Go.Proofs.AmEnv
open Go Go.AM
noncomputable def c6 : XC :=
 (.seq
 (.reg false [
 ⟨some 0, .assign (.const (.bool false)), none, false, [], false⟩])
 (.seq
 (.reg false [
 ⟨some 4, .call ⟨.value (.func 33), #[.const (.int .i64 0)], #[3]⟩, none, false, [], false⟩,
 ⟨some 5, .build 49 #[(1, .tmp 4)], none, false, [], false⟩,
 ⟨some 6, .buildSlice 23 1 #[(0, .tmp 5)], none, false, [], false⟩,
 ⟨some 7, .call ⟨.value (.func 32), #[.tmp 6], #[23]⟩, none, false, [], false⟩,
 ⟨some 8, .call ⟨.value (.func 33), #[.const (.int .i64 0)], #[3]⟩, none, false, [], false⟩,
 ⟨some 9, .call ⟨.value (.func 34), #[.tmp 8], #[29]⟩, none, false, [], false⟩,
 ⟨some 10, .buildSlice 23 1 #[(0, .tmp 9)], none, false, [], false⟩,
 ⟨some 11, .call ⟨.value (.func 32), #[.tmp 10], #[23]⟩, none, false, [], false⟩,
 ⟨some 12, .call ⟨.value (.func 33), #[.const (.int .i64 1)], #[3]⟩, none, false, [], false⟩,
 ⟨some 13, .build 49 #[(1, .tmp 12)], none, false, [], false⟩,
 ⟨some 14, .call ⟨.value (.func 33), #[.const (.int .i64 0)], #[3]⟩, none, false, [], false⟩,
 ⟨some 15, .build 49 #[(1, .tmp 14)], none, false, [], false⟩,
 ⟨some 16, .buildSlice 23 2 #[(0, .tmp 13), (1, .tmp 15)], none, false, [], false⟩,
 ⟨some 17, .call ⟨.value (.func 32), #[.tmp 16], #[23]⟩, none, false, [], false⟩,
 ⟨some 18, .call ⟨.value (.func 33), #[.const (.int .i64 3)], #[3]⟩, none, false, [], false⟩,
 ⟨some 19, .call ⟨.value (.func 34), #[.tmp 18], #[29]⟩, none, false, [], false⟩,
 ⟨some 20, .call ⟨.value (.func 33), #[.const (.int .i64 2)], #[3]⟩, none, false, [], false⟩,
 ⟨some 21, .build 49 #[(1, .tmp 20)], none, false, [], false⟩,
 ⟨some 22, .call ⟨.value (.func 33), #[.const (.int .i64 1)], #[3]⟩, none, false, [], false⟩,
 ⟨some 23, .build 49 #[(1, .tmp 22)], none, false, [], false⟩,
 ⟨some 24, .call ⟨.value (.func 33), #[.const (.int .i64 2)], #[3]⟩, none, false, [], false⟩,
 ⟨some 25, .build 49 #[(1, .tmp 24)], none, false, [], false⟩,
 ⟨some 26, .buildSlice 23 4 #[(0, .tmp 19), (1, .tmp 21), (2, .tmp 23), (3, .tmp 25)], none, false, [], false⟩,
 ⟨some 27, .call ⟨.value (.func 32), #[.tmp 26], #[23]⟩, none, false, [], false⟩,
 ⟨some 28, .build 29 #[(0, .const (.int .i64 2)), (1, .const (.int .i64 1)), (3, .const (.int .i64 2))], none, false, [], false⟩,
 ⟨some 29, .call ⟨.value (.func 34), #[.tmp 28], #[29]⟩, none, false, [], false⟩,
 ⟨some 30, .call ⟨.value (.func 35), #[], #[]⟩, none, false, [], false⟩,
 ⟨some 31, .build 49 #[(1, .tmp 30)], none, false, [], false⟩,
 ⟨some 32, .call ⟨.value (.func 35), #[], #[]⟩, none, false, [], false⟩,
 ⟨some 33, .build 49 #[(1, .tmp 32)], none, false, [], false⟩,
 ⟨some 34, .buildSlice 23 3 #[(0, .tmp 29), (1, .tmp 31), (2, .tmp 33)], none, false, [], false⟩,
 ⟨some 35, .call ⟨.value (.func 32), #[.tmp 34], #[23]⟩, none, false, [], false⟩,
 ⟨some 36, .build 29 #[(0, .const (.int .i64 2)), (1, .const (.int .i64 1)), (2, .const (.int .i64 1)), (3, .const (.int .i64 1))], none, false, [], false⟩,
 ⟨some 37, .call ⟨.value (.func 34), #[.tmp 36], #[29]⟩, none, false, [], false⟩,
 ⟨some 38, .build 29 #[(0, .const (.int .i64 2)), (1, .const (.int .i64 1)), (2, .const (.int .i64 2)), (3, .const (.int .i64 3))], none, false, [], false⟩,
 ⟨some 39, .call ⟨.value (.func 34), #[.tmp 38], #[29]⟩, none, false, [], false⟩,
 ⟨some 40, .call ⟨.value (.func 33), #[.const (.int .i64 4)], #[3]⟩, none, false, [], false⟩,
 ⟨some 41, .build 49 #[(1, .tmp 40)], none, false, [], false⟩,
 ⟨some 42, .call ⟨.value (.func 33), #[.const (.int .i64 4)], #[3]⟩, none, false, [], false⟩,
 ⟨some 43, .build 49 #[(1, .tmp 42)], none, false, [], false⟩,
 ⟨some 44, .call ⟨.value (.func 35), #[], #[]⟩, none, false, [], false⟩,
 ⟨some 45, .call ⟨.value (.func 34), #[.tmp 44], #[29]⟩, none, false, [], false⟩,
 ⟨some 46, .buildSlice 23 5 #[(0, .tmp 37), (1, .tmp 39), (2, .tmp 41), (3, .tmp 43), (4, .tmp 45)], none, false, [], false⟩,
 ⟨some 47, .call ⟨.value (.func 32), #[.tmp 46], #[23]⟩, none, false, [], false⟩,
 ⟨some 48, .call ⟨.value (.func 33), #[.const (.int .i64 3)], #[3]⟩, none, false, [], false⟩,
 ⟨some 49, .build 49 #[(1, .tmp 48)], none, false, [], false⟩,
 ⟨some 50, .call ⟨.value (.func 33), #[.const (.int .i64 2)], #[3]⟩, none, false, [], false⟩,
 ⟨some 51, .call ⟨.value (.func 34), #[.tmp 50], #[29]⟩, none, false, [], false⟩,
 ⟨some 52, .call ⟨.value (.func 35), #[], #[]⟩, none, false, [], false⟩,
 ⟨some 53, .call ⟨.value (.func 34), #[.tmp 52], #[29]⟩, none, false, [], false⟩,
 ⟨some 54, .call ⟨.value (.func 33), #[.const (.int .i64 1)], #[3]⟩, none, false, [], false⟩,
 ⟨some 55, .call ⟨.value (.func 34), #[.tmp 54], #[29]⟩, none, false, [], false⟩,
 ⟨some 56, .buildSlice 23 4 #[(0, .tmp 49), (1, .tmp 51), (2, .tmp 53), (3, .tmp 55)], none, false, [], false⟩,
 ⟨some 57, .call ⟨.value (.func 32), #[.tmp 56], #[23]⟩, none, false, [], false⟩,
 ⟨some 58, .call ⟨.value (.func 35), #[], #[]⟩, none, false, [], false⟩,
 ⟨some 59, .call ⟨.value (.func 34), #[.tmp 58], #[29]⟩, none, false, [], false⟩,
 ⟨some 60, .call ⟨.value (.func 33), #[.const (.int .i64 0)], #[3]⟩, none, false, [], false⟩,
 ⟨some 61, .call ⟨.value (.func 34), #[.tmp 60], #[29]⟩, none, false, [], false⟩,
 ⟨some 62, .buildSlice 23 2 #[(0, .tmp 59), (1, .tmp 61)], none, false, [], false⟩,
 ⟨some 63, .call ⟨.value (.func 32), #[.tmp 62], #[23]⟩, none, false, [], false⟩,
 ⟨some 64, .call ⟨.value (.func 33), #[.const (.int .i64 1)], #[3]⟩, none, false, [], false⟩,
 ⟨some 65, .build 49 #[(1, .tmp 64)], none, false, [], false⟩,
 ⟨some 66, .build 29 #[(0, .const (.int .i64 2)), (1, .const (.int .i64 1)), (2, .const (.int .i64 0)), (3, .const (.int .i64 2))], none, false, [], false⟩,
 ⟨some 67, .call ⟨.value (.func 34), #[.tmp 66], #[29]⟩, none, false, [], false⟩,
 ⟨some 68, .call ⟨.value (.func 35), #[], #[]⟩, none, false, [], false⟩,
 ⟨some 69, .call ⟨.value (.func 34), #[.tmp 68], #[29]⟩, none, false, [], false⟩,
 ⟨some 70, .buildSlice 23 3 #[(0, .tmp 65), (1, .tmp 67), (2, .tmp 69)], none, false, [], false⟩,
 ⟨some 71, .call ⟨.value (.func 32), #[.tmp 70], #[23]⟩, none, false, [], false⟩,
 ⟨some 72, .buildSlice 33 9 #[(0, .tmp 7), (1, .tmp 11), (2, .tmp 17), (3, .tmp 27), (4, .tmp 35), (5, .tmp 47), (6, .tmp 57), (7, .tmp 63), (8, .tmp 71)], none, false, [], false⟩,
 ⟨some 1, .assign (.tmp 72), none, false, [], false⟩])
 (.seq
 (.seq
 (.reg false [
 ⟨some 2, .assign (.const (.int .i64 0)), none, false, [], false⟩])
 (.block 0
 (.loop
 (.seq
 (.seq
 (.reg false [
 ⟨some 73, .move (.tmp 2), none, false, [], false⟩,
 ⟨some 74, .move (.tmp 1), none, false, [], false⟩,
 ⟨some 75, .call ⟨.builtin .len, #[.tmp 74], #[33]⟩, none, false, [], false⟩,
 ⟨some 76, .binOp .lss 3 (.tmp 73) (.tmp 75) 3, none, false, [], false⟩])
 (.cond (.tmp 76)
 .skip
 (.exit 0)))
 (.seq
 (.block 1
 (.seq
 (.reg false [
 ⟨some 79, .move (.tmp 1), none, false, [], false⟩,
 ⟨some 80, .move (.tmp 2), none, false, [], false⟩,
 ⟨some 81, .indexAddr 33 (.tmp 79) (.tmp 80), none, false, [], false⟩,
 ⟨some 82, .load 25 (.tmp 81), none, false, [], false⟩,
 ⟨some 83, .buildSlice 33 1 #[(0, .tmp 82)], none, false, [], false⟩,
 ⟨some 84, .build 36 #[(1, .tmp 83)], none, false, [], false⟩,
 ⟨some 3, .alloc 36, none, false, [], false⟩,
 ⟨none, .store 36 (.tmp 3) (.tmp 84), none, false, [], false⟩])
 (.seq
 (.reg false [
 ⟨some 85, .load 36 (.tmp 3), none, false, [], false⟩,
 ⟨some 86, .call ⟨.value (.func 36), #[.tmp 85], #[36]⟩, none, false, [], false⟩,
 ⟨some 87, .binOp .neq 62 (.tmp 86) (.const (.int .i64 0)) 62, none, false, [], false⟩,
 ⟨some 88, .move (.tmp 87), none, false, [], false⟩,
 ⟨some 89, .load 36 (.tmp 3), some (some 88, false), false, [], false⟩,
 ⟨some 90, .call ⟨.value (.func 37), #[.tmp 89], #[36]⟩, some (some 88, false), false, [], false⟩,
 ⟨some 91, .unOp .not 4 (.tmp 90), some (some 88, false), false, [], false⟩,
 ⟨some 92, .pick (.tmp 88) (.const (.bool true)) (.tmp 91), none, false, [], false⟩,
 ⟨some 93, .move (.tmp 92), none, false, [], false⟩,
 ⟨some 94, .load 36 (.tmp 3), some (some 93, false), false, [], false⟩,
 ⟨some 95, .call ⟨.value (.func 38), #[.tmp 94], #[36]⟩, some (some 93, false), false, [], false⟩,
 ⟨some 96, .unOp .not 4 (.tmp 95), some (some 93, false), false, [], false⟩,
 ⟨some 97, .pick (.tmp 93) (.const (.bool true)) (.tmp 96), none, false, [], false⟩,
 ⟨some 98, .move (.tmp 97), none, false, [], false⟩,
 ⟨some 99, .load 36 (.tmp 3), some (some 98, false), false, [], false⟩,
 ⟨some 100, .call ⟨.value (.func 39), #[.tmp 99, .const (.slice none 0 0), .const (.int .i64 30)], #[36, 22, 3]⟩, some (some 98, false), false, [], false⟩,
 ⟨some 101, .unOp .not 4 (.tmp 100), some (some 98, false), false, [], false⟩,
 ⟨some 102, .pick (.tmp 98) (.const (.bool true)) (.tmp 101), none, false, [], false⟩])
 (.cond (.tmp 102)
 (.seq
 (.reg false [
 ⟨some 0, .assign (.const (.bool false)), none, false, [], false⟩])
 .ret)
 .skip))))
 (.reg false [
 ⟨some 77, .move (.tmp 2), none, false, [], false⟩,
 ⟨some 78, .binOp .add 3 (.tmp 77) (.const (.int .i64 1)) 3, none, false, [], false⟩,
 ⟨some 2, .assign (.tmp 78), none, false, [], false⟩]))))))
 (.seq
 (.reg false [
 ⟨some 103, .call ⟨.value (.func 40), #[], #[]⟩, none, false, [], false⟩,
 ⟨some 0, .assign (.tmp 103), none, false, [], false⟩])
 .ret))))
noncomputable def fi6 : FI := ⟨c6, 104, [.tmp 0], .plain⟩
noncomputable def c16 : XC :=
 (.seq
 (.reg false [
 ⟨some 2, .box 25 (.tmp 0), none, false, [], false⟩,
 ⟨some 3, .box 25 (.tmp 1), none, false, [], false⟩,
 ⟨some 4, .assign (.const (.bool false)), none, false, [], false⟩])
 (.seq
 (.reg false [
 ⟨some 5, .fieldAddr 25 (.tmp 2) 0, none, false, [], false⟩,
 ⟨some 6, .load 9 (.tmp 5), none, false, [], false⟩,
 ⟨some 7, .fieldAddr 25 (.tmp 3) 0, none, false, [], false⟩,
 ⟨some 8, .load 9 (.tmp 7), none, false, [], false⟩,
 ⟨some 9, .binOp .eql 9 (.tmp 6) (.tmp 8) 9, none, false, [], false⟩,
 ⟨some 10, .move (.tmp 9), none, false, [], false⟩,
 ⟨some 11, .fieldAddr 25 (.tmp 2) 1, some (some 10, true), false, [], false⟩,
 ⟨some 12, .load 3 (.tmp 11), some (some 10, true), false, [], false⟩,
 ⟨some 13, .fieldAddr 25 (.tmp 3) 1, some (some 10, true), false, [], false⟩,
 ⟨some 14, .load 3 (.tmp 13), some (some 10, true), false, [], false⟩,
 ⟨some 15, .binOp .eql 3 (.tmp 12) (.tmp 14) 3, some (some 10, true), false, [], false⟩,
 ⟨some 16, .pick (.tmp 10) (.tmp 15) (.const (.bool false)), none, false, [], false⟩,
 ⟨some 17, .move (.tmp 16), none, false, [], false⟩,
 ⟨some 18, .fieldAddr 25 (.tmp 2) 2, some (some 17, true), false, [], false⟩,
 ⟨some 19, .load 3 (.tmp 18), some (some 17, true), false, [], false⟩,
 ⟨some 20, .fieldAddr 25 (.tmp 3) 2, some (some 17, true), false, [], false⟩,
 ⟨some 21, .load 3 (.tmp 20), some (some 17, true), false, [], false⟩,
 ⟨some 22, .binOp .eql 3 (.tmp 19) (.tmp 21) 3, some (some 17, true), false, [], false⟩,
 ⟨some 23, .pick (.tmp 17) (.tmp 22) (.const (.bool false)), none, false, [], false⟩,
 ⟨some 24, .move (.tmp 23), none, false, [], false⟩,
 ⟨some 25, .fieldAddr 25 (.tmp 2) 3, some (some 24, true), false, [], false⟩,
 ⟨some 26, .load 22 (.tmp 25), some (some 24, true), false, [], false⟩,
 ⟨some 27, .fieldAddr 25 (.tmp 3) 3, some (some 24, true), false, [], false⟩,
 ⟨some 28, .load 22 (.tmp 27), some (some 24, true), false, [], false⟩,
 ⟨some 29, .call ⟨.value (.func 61), #[.tmp 26, .tmp 28], #[22, 22]⟩, some (some 24, true), false, [], false⟩,
 ⟨some 30, .pick (.tmp 24) (.tmp 29) (.const (.bool false)), none, false, [], false⟩,
 ⟨some 31, .move (.tmp 30), none, false, [], false⟩,
 ⟨some 32, .fieldAddr 25 (.tmp 2) 4, some (some 31, true), false, [], false⟩,
 ⟨some 33, .load 23 (.tmp 32), some (some 31, true), false, [], false⟩,
 ⟨some 34, .fieldAddr 25 (.tmp 3) 4, some (some 31, true), false, [], false⟩,
 ⟨some 35, .load 23 (.tmp 34), some (some 31, true), false, [], false⟩,
 ⟨some 36, .call ⟨.value (.func 64), #[.tmp 33, .tmp 35], #[23, 23]⟩, some (some 31, true), false, [], false⟩,
 ⟨some 37, .pick (.tmp 31) (.tmp 36) (.const (.bool false)), none, false, [], false⟩,
 ⟨some 4, .assign (.tmp 37), none, false, [], false⟩])
 .ret))
noncomputable def fi16 : FI := ⟨c16, 38, [.tmp 4], .plain⟩
noncomputable def c32 : XC :=
 (.seq
 (.reg false [
 ⟨some 2, .alloc 25, none, false, [], false⟩])
 (.seq
 (.reg false [
 ⟨some 3, .buildSlice 22 2 #[(0, .const (.int .i64 2)), (1, .const (.int .i64 1))], none, false, [], false⟩,
 ⟨some 4, .move (.tmp 0), none, false, [], false⟩,
 ⟨some 5, .build 25 #[(0, .const (.string ⟨#[109, 97, 105, 110]⟩)), (1, .const (.int .i64 1)), (3, .tmp 3), (4, .tmp 4)], none, false, [], false⟩,
 ⟨none, .store 25 (.tmp 2) (.tmp 5), none, false, [], false⟩])
 .ret))
noncomputable def fi32 : FI := ⟨c32, 6, [.cell 2 25], .plain⟩
noncomputable def c33 : XC :=
 (.seq
 (.reg false [
 ⟨some 2, .alloc 29, none, false, [], false⟩])
 (.seq
 (.reg false [
 ⟨some 3, .move (.tmp 0), none, false, [], false⟩,
 ⟨some 4, .build 29 #[(0, .const (.int .i64 1)), (2, .tmp 3)], none, false, [], false⟩,
 ⟨none, .store 29 (.tmp 2) (.tmp 4), none, false, [], false⟩])
 .ret))
noncomputable def fi33 : FI := ⟨c33, 5, [.cell 2 29], .plain⟩
noncomputable def c34 : XC :=
 (.seq
 (.reg false [
 ⟨some 1, .box 29 (.tmp 0), none, false, [], false⟩,
 ⟨some 2, .alloc 49, none, false, [], false⟩])
 (.seq
 (.reg false [
 ⟨some 3, .build 46 #[(0, .const (.int .i64 11))], none, false, [], false⟩,
 ⟨some 4, .buildSlice 47 1 #[(0, .tmp 3)], none, false, [], false⟩,
 ⟨some 5, .load 29 (.tmp 1), none, false, [], false⟩,
 ⟨some 6, .build 49 #[(0, .tmp 4), (1, .tmp 5)], none, false, [], false⟩,
 ⟨none, .store 49 (.tmp 2) (.tmp 6), none, false, [], false⟩])
 .ret))
noncomputable def fi34 : FI := ⟨c34, 7, [.cell 2 49], .plain⟩
noncomputable def c35 : XC :=
 (.seq
 (.reg false [
 ⟨some 0, .alloc 29, none, false, [], false⟩])
 (.seq
 (.reg false [
 ⟨some 1, .build 29 #[(0, .const (.int .i64 3)), (1, .const (.int .i64 1))], none, false, [], false⟩,
 ⟨none, .store 29 (.tmp 0) (.tmp 1), none, false, [], false⟩])
 .ret))
noncomputable def fi35 : FI := ⟨c35, 2, [.cell 0 29], .plain⟩
noncomputable def c36 : XC :=
 (.seq
 (.reg false [
 ⟨some 1, .box 36 (.tmp 0), none, false, [], false⟩,
 ⟨some 2, .assign (.const (.int .i64 0)), none, false, [], false⟩])
 (.seq
 (.seq
 (.reg false [
 ⟨some 9, .fieldAddr 36 (.tmp 1) 0, none, false, [], false⟩,
 ⟨some 10, .load 34 (.tmp 9), none, false, [], false⟩,
 ⟨some 11, .call ⟨.builtin .len, #[.tmp 10], #[34]⟩, none, false, [], false⟩,
 ⟨some 12, .move (.const (.int .i64 0)), none, false, [], false⟩])
 (.block 0
 (.loop
 (.seq
 (.reg false [
 ⟨some 13, .binOp .lss 3 (.tmp 12) (.tmp 11) 3, none, false, [], false⟩])
 (.seq
 (.cond (.tmp 13)
 .skip
 (.exit 0))
 (.seq
 (.block 1
 (.seq
 (.reg false [
 ⟨some 14, .indexAddr 34 (.tmp 10) (.tmp 12), none, false, [], false⟩,
 ⟨some 15, .load 105 (.tmp 14), none, false, [], false⟩,
 ⟨some 4, .alloc 105, none, false, [], false⟩,
 ⟨none, .store 105 (.tmp 4) (.tmp 15), none, false, [], false⟩])
 (.seq
 (.reg false [
 ⟨some 16, .fieldAddr 105 (.tmp 4) 1, none, false, [], false⟩,
 ⟨some 17, .load 3 (.tmp 16), none, false, [], false⟩,
 ⟨some 18, .call ⟨.value (.func 86), #[.tmp 17], #[3]⟩, none, false, [], false⟩,
 ⟨some 19, .unOp .not 4 (.tmp 18), none, false, [], false⟩,
 ⟨some 20, .move (.tmp 19), none, false, [], false⟩,
 ⟨some 21, .fieldAddr 105 (.tmp 4) 1, some (some 20, true), false, [], false⟩,
 ⟨some 22, .load 3 (.tmp 21), some (some 20, true), false, [], false⟩,
 ⟨some 23, .binOp .neq 3 (.tmp 22) (.const (.int .i64 3)) 3, some (some 20, true), false, [], false⟩,
 ⟨some 24, .move (.tmp 23), some (some 20, true), false, [], false⟩,
 ⟨some 25, .fieldAddr 105 (.tmp 4) 2, some (some 24, false), false, [], false⟩,
 ⟨some 26, .load 3 (.tmp 25), some (some 24, false), false, [], false⟩,
 ⟨some 27, .binOp .lss 3 (.tmp 26) (.const (.int .i64 1)) 3, some (some 24, false), false, [], false⟩,
 ⟨some 28, .pick (.tmp 24) (.const (.bool true)) (.tmp 27), some (some 20, true), false, [], false⟩,
 ⟨some 29, .pick (.tmp 20) (.tmp 28) (.const (.bool false)), none, false, [], false⟩])
 (.cond (.tmp 29)
 (.seq
 (.reg false [
 ⟨some 2, .assign (.const (.int .i64 6)), none, false, [], false⟩])
 .ret)
 .skip))))
 (.reg false [
 ⟨some 30, .binOp .add 3 (.tmp 12) (.const (.int .i64 1)) 3, none, false, [], false⟩,
 ⟨some 12, .move (.tmp 30), none, false, [], false⟩])))))))
 (.seq
 (.seq
 (.reg false [
 ⟨some 31, .fieldAddr 36 (.tmp 1) 1, none, false, [], false⟩,
 ⟨some 32, .load 33 (.tmp 31), none, false, [], false⟩,
 ⟨some 33, .call ⟨.builtin .len, #[.tmp 32], #[33]⟩, none, false, [], false⟩,
 ⟨some 34, .move (.const (.int .i64 0)), none, false, [], false⟩])
 (.block 2
 (.loop
 (.seq
 (.reg false [
 ⟨some 35, .binOp .lss 3 (.tmp 34) (.tmp 33) 3, none, false, [], false⟩])
 (.seq
 (.cond (.tmp 35)
 .skip
 (.exit 2))
 (.seq
 (.block 3
 (.seq
 (.reg false [
 ⟨some 36, .indexAddr 33 (.tmp 32) (.tmp 34), none, false, [], false⟩,
 ⟨some 37, .load 25 (.tmp 36), none, false, [], false⟩,
 ⟨some 6, .alloc 25, none, false, [], false⟩,
 ⟨none, .store 25 (.tmp 6) (.tmp 37), none, false, [], false⟩])
 (.seq
 (.reg false [
 ⟨some 38, .load 36 (.tmp 1), none, false, [], false⟩,
 ⟨some 39, .load 25 (.tmp 6), none, false, [], false⟩,
 ⟨some 40, .build 107 #[(0, .tmp 38), (1, .tmp 39)], none, false, [], false⟩,
 ⟨some 41, .call ⟨.value (.func 87), #[.tmp 40], #[107]⟩, none, false, [], false⟩,
 ⟨some 7, .assign (.tmp 41), none, false, [], false⟩])
 (.seq
 (.reg false [
 ⟨some 42, .move (.tmp 7), none, false, [], false⟩,
 ⟨some 43, .binOp .neq 62 (.tmp 42) (.const (.int .i64 0)) 62, none, false, [], false⟩])
 (.cond (.tmp 43)
 (.seq
 (.reg false [
 ⟨some 44, .move (.tmp 7), none, false, [], false⟩,
 ⟨some 2, .assign (.tmp 44), none, false, [], false⟩])
 .ret)
 .skip)))))
 (.reg false [
 ⟨some 45, .binOp .add 3 (.tmp 34) (.const (.int .i64 1)) 3, none, false, [], false⟩,
 ⟨some 34, .move (.tmp 45), none, false, [], false⟩])))))))
 (.seq
 (.reg false [
 ⟨some 46, .load 36 (.tmp 1), none, false, [], false⟩,
 ⟨some 47, .call ⟨.value (.func 88), #[.tmp 46], #[36]⟩, none, false, [], false⟩,
 ⟨some 8, .assign (.tmp 47), none, false, [], false⟩])
 (.seq
 (.seq
 (.reg false [
 ⟨some 48, .move (.tmp 8), none, false, [], false⟩,
 ⟨some 49, .binOp .lss 3 (.tmp 48) (.const (.int .i64 0)) 3, none, false, [], false⟩,
 ⟨some 50, .move (.tmp 49), none, false, [], false⟩,
 ⟨some 51, .fieldAddr 36 (.tmp 1) 1, some (some 50, false), false, [], false⟩,
 ⟨some 52, .load 33 (.tmp 51), some (some 50, false), false, [], false⟩,
 ⟨some 53, .move (.tmp 8), some (some 50, false), false, [], false⟩,
 ⟨some 54, .indexAddr 33 (.tmp 52) (.tmp 53), some (some 50, false), false, [], false⟩,
 ⟨some 55, .fieldAddr 25 (.tmp 54) 1, some (some 50, false), false, [], false⟩,
 ⟨some 56, .load 3 (.tmp 55), some (some 50, false), false, [], false⟩,
 ⟨some 57, .binOp .neq 3 (.tmp 56) (.const (.int .i64 1)) 3, some (some 50, false), false, [], false⟩,
 ⟨some 58, .pick (.tmp 50) (.const (.bool true)) (.tmp 57), none, false, [], false⟩,
 ⟨some 59, .move (.tmp 58), none, false, [], false⟩,
 ⟨some 60, .fieldAddr 36 (.tmp 1) 1, some (some 59, false), false, [], false⟩,
 ⟨some 61, .load 33 (.tmp 60), some (some 59, false), false, [], false⟩,
 ⟨some 62, .move (.tmp 8), some (some 59, false), false, [], false⟩,
 ⟨some 63, .indexAddr 33 (.tmp 61) (.tmp 62), some (some 59, false), false, [], false⟩,
 ⟨some 64, .fieldAddr 25 (.tmp 63) 2, some (some 59, false), false, [], false⟩,
 ⟨some 65, .load 3 (.tmp 64), some (some 59, false), false, [], false⟩,
 ⟨some 66, .binOp .neq 3 (.tmp 65) (.const (.int .i64 0)) 3, some (some 59, false), false, [], false⟩,
 ⟨some 67, .pick (.tmp 59) (.const (.bool true)) (.tmp 66), none, false, [], false⟩])
 (.cond (.tmp 67)
 (.seq
 (.reg false [
 ⟨some 2, .assign (.const (.int .i64 12)), none, false, [], false⟩])
 .ret)
 .skip))
 (.seq
 (.reg false [
 ⟨some 2, .assign (.const (.int .i64 0)), none, false, [], false⟩])
 .ret))))))
noncomputable def fi36 : FI := ⟨c36, 68, [.tmp 2], .plain⟩
noncomputable def c37 : XC :=
 (.seq
 (.reg false [
 ⟨some 1, .box 36 (.tmp 0), none, false, [], false⟩,
 ⟨some 2, .assign (.const (.bool false)), none, false, [], false⟩])
 (.seq
 (.seq
 (.reg false [
 ⟨some 8, .load 36 (.tmp 1), none, false, [], false⟩,
 ⟨some 9, .call ⟨.value (.func 89), #[.tmp 8], #[36]⟩, none, false, [], false⟩])
 (.cond (.tmp 9)
 (.seq
 (.reg false [
 ⟨some 10, .call ⟨.value (.func 40), #[], #[]⟩, none, false, [], false⟩,
 ⟨some 2, .assign (.tmp 10), none, false, [], false⟩])
 .ret)
 .skip))
 (.seq
 (.seq
 (.reg false [
 ⟨some 3, .assign (.const (.int .i64 0)), none, false, [], false⟩])
 (.block 0
 (.loop
 (.seq
 (.seq
 (.reg false [
 ⟨some 11, .move (.tmp 3), none, false, [], false⟩,
 ⟨some 12, .fieldAddr 36 (.tmp 1) 1, none, false, [], false⟩,
 ⟨some 13, .load 33 (.tmp 12), none, false, [], false⟩,
 ⟨some 14, .call ⟨.builtin .len, #[.tmp 13], #[33]⟩, none, false, [], false⟩,
 ⟨some 15, .binOp .lss 3 (.tmp 11) (.tmp 14) 3, none, false, [], false⟩])
 (.cond (.tmp 15)
 .skip
 (.exit 0)))
 (.seq
 (.block 1
 (.seq
 (.reg false [
 ⟨some 18, .fieldAddr 36 (.tmp 1) 1, none, false, [], false⟩,
 ⟨some 19, .load 33 (.tmp 18), none, false, [], false⟩,
 ⟨some 20, .move (.tmp 3), none, false, [], false⟩,
 ⟨some 21, .indexAddr 33 (.tmp 19) (.tmp 20), none, false, [], false⟩,
 ⟨some 22, .load 25 (.tmp 21), none, false, [], false⟩,
 ⟨some 23, .call ⟨.value (.func 56), #[.tmp 22], #[25]⟩, none, false, [], false⟩,
 ⟨some 4, .alloc 25, none, false, [], false⟩,
 ⟨none, .store 25 (.tmp 4) (.tmp 23), none, false, [], false⟩])
 (.seq
 (.reg false [
 ⟨some 24, .load 25 (.tmp 4), none, false, [], false⟩,
 ⟨some 25, .call ⟨.value (.func 90), #[.tmp 24], #[25]⟩, none, false, [], false⟩,
 ⟨some 5, .alloc 25, none, false, [], false⟩,
 ⟨none, .store 25 (.tmp 5) (.tmp 25), none, false, [], false⟩])
 (.seq
 (.reg false [
 ⟨some 26, .load 25 (.tmp 4), none, false, [], false⟩,
 ⟨some 27, .call ⟨.value (.func 90), #[.tmp 26], #[25]⟩, none, false, [], false⟩,
 ⟨some 6, .alloc 25, none, false, [], false⟩,
 ⟨none, .store 25 (.tmp 6) (.tmp 27), none, false, [], false⟩])
 (.seq
 (.reg false [
 ⟨some 28, .fieldAddr 36 (.tmp 1) 1, none, false, [], false⟩,
 ⟨some 29, .load 33 (.tmp 28), none, false, [], false⟩,
 ⟨some 30, .move (.tmp 3), none, false, [], false⟩,
 ⟨some 31, .indexAddr 33 (.tmp 29) (.tmp 30), none, false, [], false⟩,
 ⟨some 32, .load 25 (.tmp 31), none, false, [], false⟩,
 ⟨some 33, .call ⟨.value (.func 91), #[.tmp 32], #[25]⟩, none, false, [], false⟩,
 ⟨some 7, .alloc 25, none, false, [], false⟩,
 ⟨none, .store 25 (.tmp 7) (.tmp 33), none, false, [], false⟩])
 (.seq
 (.seq
 (.reg true [
 ⟨some 34, .load 25 (.tmp 5), none, false, [], false⟩,
 ⟨some 35, .load 25 (.tmp 7), none, false, [], false⟩,
 ⟨some 36, .call ⟨.value (.func 16), #[.tmp 34, .tmp 35], #[25, 25]⟩, none, false, [true, true, true, true, true, true, true, true, true, true, true], false⟩,
 ⟨some 37, .unOp .not 4 (.tmp 36), none, false, [], false⟩,
 ⟨some 38, .move (.tmp 37), none, false, [], false⟩,
 ⟨some 39, .load 25 (.tmp 4), some (some 38, false), false, [], false⟩,
 ⟨some 40, .fieldAddr 36 (.tmp 1) 1, some (some 38, false), false, [], false⟩,
 ⟨some 41, .load 33 (.tmp 40), some (some 38, false), false, [], false⟩,
 ⟨some 42, .move (.tmp 3), some (some 38, false), false, [], false⟩,
 ⟨some 43, .indexAddr 33 (.tmp 41) (.tmp 42), some (some 38, false), false, [], false⟩,
 ⟨some 44, .load 25 (.tmp 43), some (some 38, false), false, [], false⟩,
 ⟨some 45, .call ⟨.value (.func 16), #[.tmp 39, .tmp 44], #[25, 25]⟩, some (some 38, false), false, [true, true], false⟩,
 ⟨some 46, .unOp .not 4 (.tmp 45), some (some 38, false), false, [], false⟩,
 ⟨some 47, .pick (.tmp 38) (.const (.bool true)) (.tmp 46), none, false, [], false⟩])
 (.cond (.tmp 47)
 (.seq
 (.reg false [
 ⟨some 2, .assign (.const (.bool false)), none, false, [], false⟩])
 .ret)
 .skip))
 (.seq
 (.reg false [
 ⟨some 48, .load 25 (.tmp 5), none, false, [], false⟩,
 ⟨some 49, .call ⟨.value (.func 58), #[.tmp 48], #[25]⟩, none, false, [], false⟩])
 (.seq
 (.reg true [
 ⟨some 50, .load 25 (.tmp 6), none, false, [], false⟩,
 ⟨some 51, .load 25 (.tmp 7), none, false, [], false⟩,
 ⟨some 52, .call ⟨.value (.func 16), #[.tmp 50, .tmp 51], #[25, 25]⟩, none, false, [true, true, true, true, true, true, true, true, true, true, true], false⟩,
 ⟨some 53, .unOp .not 4 (.tmp 52), none, false, [], false⟩,
 ⟨some 54, .move (.tmp 53), none, false, [], false⟩,
 ⟨some 55, .load 25 (.tmp 4), some (some 54, false), false, [], false⟩,
 ⟨some 56, .fieldAddr 36 (.tmp 1) 1, some (some 54, false), false, [], false⟩,
 ⟨some 57, .load 33 (.tmp 56), some (some 54, false), false, [], false⟩,
 ⟨some 58, .move (.tmp 3), some (some 54, false), false, [], false⟩,
 ⟨some 59, .indexAddr 33 (.tmp 57) (.tmp 58), some (some 54, false), false, [], false⟩,
 ⟨some 60, .load 25 (.tmp 59), some (some 54, false), false, [], false⟩,
 ⟨some 61, .call ⟨.value (.func 16), #[.tmp 55, .tmp 60], #[25, 25]⟩, some (some 54, false), false, [true, true], false⟩,
 ⟨some 62, .unOp .not 4 (.tmp 61), some (some 54, false), false, [], false⟩,
 ⟨some 63, .pick (.tmp 54) (.const (.bool true)) (.tmp 62), none, false, [], false⟩])
 (.cond (.tmp 63)
 (.seq
 (.reg false [
 ⟨some 2, .assign (.const (.bool false)), none, false, [], false⟩])
 .ret)
 .skip)))))))))
 (.reg false [
 ⟨some 16, .move (.tmp 3), none, false, [], false⟩,
 ⟨some 17, .binOp .add 3 (.tmp 16) (.const (.int .i64 1)) 3, none, false, [], false⟩,
 ⟨some 3, .assign (.tmp 17), none, false, [], false⟩]))))))
 (.seq
 (.reg false [
 ⟨some 64, .call ⟨.value (.func 40), #[], #[]⟩, none, false, [], false⟩,
 ⟨some 2, .assign (.tmp 64), none, false, [], false⟩])
 .ret))))
noncomputable def fi37 : FI := ⟨c37, 65, [.tmp 2], .plain⟩
noncomputable def c38 : XC :=
 (.seq
 (.reg false [
 ⟨some 1, .box 36 (.tmp 0), none, false, [], false⟩,
 ⟨some 2, .assign (.const (.bool false)), none, false, [], false⟩])
 (.seq
 (.seq
 (.reg false [
 ⟨some 15, .load 36 (.tmp 1), none, false, [], false⟩,
 ⟨some 16, .call ⟨.value (.func 89), #[.tmp 15], #[36]⟩, none, false, [], false⟩])
 (.cond (.tmp 16)
 (.seq
 (.reg false [
 ⟨some 17, .call ⟨.value (.func 40), #[], #[]⟩, none, false, [], false⟩,
 ⟨some 2, .assign (.tmp 17), none, false, [], false⟩])
 .ret)
 .skip))
 (.seq
 (.seq
 (.reg false [
 ⟨some 3, .assign (.const (.int .i64 0)), none, false, [], false⟩])
 (.block 0
 (.loop
 (.seq
 (.seq
 (.reg false [
 ⟨some 18, .move (.tmp 3), none, false, [], false⟩,
 ⟨some 19, .fieldAddr 36 (.tmp 1) 1, none, false, [], false⟩,
 ⟨some 20, .load 33 (.tmp 19), none, false, [], false⟩,
 ⟨some 21, .call ⟨.builtin .len, #[.tmp 20], #[33]⟩, none, false, [], false⟩,
 ⟨some 22, .binOp .lss 3 (.tmp 18) (.tmp 21) 3, none, false, [], false⟩])
 (.cond (.tmp 22)
 .skip
 (.exit 0)))
 (.seq
 (.block 1
 (.seq
 (.reg false [
 ⟨some 25, .fieldAddr 36 (.tmp 1) 1, none, false, [], false⟩,
 ⟨some 26, .load 33 (.tmp 25), none, false, [], false⟩,
 ⟨some 27, .move (.tmp 3), none, false, [], false⟩,
 ⟨some 28, .indexAddr 33 (.tmp 26) (.tmp 27), none, false, [], false⟩,
 ⟨some 29, .load 25 (.tmp 28), none, false, [], false⟩,
 ⟨some 4, .alloc 25, none, false, [], false⟩,
 ⟨none, .store 25 (.tmp 4) (.tmp 29), none, false, [], false⟩])
 (.seq
 (.reg false [
 ⟨some 30, .load 25 (.tmp 4), none, false, [], false⟩,
 ⟨some 31, .call ⟨.value (.func 90), #[.tmp 30], #[25]⟩, none, false, [], false⟩,
 ⟨some 5, .alloc 25, none, false, [], false⟩,
 ⟨none, .store 25 (.tmp 5) (.tmp 31), none, false, [], false⟩])
 (.seq
 (.seq
 (.reg true [
 ⟨some 32, .load 25 (.tmp 5), none, false, [], false⟩,
 ⟨some 33, .call ⟨.value (.func 90), #[.tmp 32], #[25]⟩, none, true, [false, true, true, true, true, true, true, true, true, true, true, true, true, true, true, true, true, true, true, true, true, true, true, true, true], false⟩,
 ⟨some 34, .load 25 (.tmp 5), none, false, [], true⟩,
 ⟨some 35, .call ⟨.value (.func 16), #[.tmp 33, .tmp 34], #[25, 25]⟩, none, false, [true, true, true, true, true, true, true, true, true, true, true, true, true, true, true, true, true, true, true, true, true, true, true], false⟩,
 ⟨some 36, .unOp .not 4 (.tmp 35), none, false, [], false⟩,
 ⟨some 37, .move (.tmp 36), none, false, [], false⟩,
 ⟨some 38, .fieldAddr 25 (.tmp 5) 4, some (some 37, false), false, [], false⟩,
 ⟨some 39, .load 23 (.tmp 38), some (some 37, false), false, [], false⟩,
 ⟨some 40, .call ⟨.builtin .len, #[.tmp 39], #[23]⟩, some (some 37, false), false, [], false⟩,
 ⟨some 41, .fieldAddr 25 (.tmp 4) 4, some (some 37, false), false, [], false⟩,
 ⟨some 42, .load 23 (.tmp 41), some (some 37, false), false, [], false⟩,
 ⟨some 43, .call ⟨.builtin .len, #[.tmp 42], #[23]⟩, some (some 37, false), false, [], false⟩,
 ⟨some 44, .binOp .gtr 3 (.tmp 40) (.tmp 43) 3, some (some 37, false), false, [], false⟩,
 ⟨some 45, .pick (.tmp 37) (.const (.bool true)) (.tmp 44), none, false, [], false⟩,
 ⟨some 46, .move (.tmp 45), none, false, [], false⟩,
 ⟨some 47, .load 25 (.tmp 5), some (some 46, false), false, [], false⟩,
 ⟨some 48, .call ⟨.value (.func 92), #[.tmp 47], #[25]⟩, some (some 46, false), true, [false, true, true, true, true, true, true, true, true, true], false⟩,
 ⟨some 49, .load 25 (.tmp 4), some (some 46, false), false, [], true⟩,
 ⟨some 50, .call ⟨.value (.func 92), #[.tmp 49], #[25]⟩, some (some 46, false), false, [true, true, true, true, true, true, true, true], false⟩,
 ⟨some 51, .binOp .gtr 3 (.tmp 48) (.tmp 50) 3, some (some 46, false), false, [], false⟩,
 ⟨some 52, .pick (.tmp 46) (.const (.bool true)) (.tmp 51), none, false, [], false⟩,
 ⟨some 53, .move (.tmp 52), none, false, [], false⟩,
 ⟨some 54, .fieldAddr 25 (.tmp 5) 4, some (some 53, false), false, [], false⟩,
 ⟨some 55, .load 23 (.tmp 54), some (some 53, false), false, [], false⟩,
 ⟨some 56, .call ⟨.builtin .len, #[.tmp 55], #[23]⟩, some (some 53, false), false, [], false⟩,
 ⟨some 57, .binOp .eql 3 (.tmp 56) (.const (.int .i64 0)) 3, some (some 53, false), false, [], false⟩,
 ⟨some 58, .pick (.tmp 53) (.const (.bool true)) (.tmp 57), none, false, [], false⟩])
 (.cond (.tmp 58)
 (.seq
 (.reg false [
 ⟨some 2, .assign (.const (.bool false)), none, false, [], false⟩])
 .ret)
 .skip))
 (.seq
 (.reg false [
 ⟨some 59, .load 25 (.tmp 5), none, false, [], false⟩,
 ⟨some 60, .call ⟨.value (.func 56), #[.tmp 59], #[25]⟩, none, false, [], false⟩,
 ⟨some 6, .alloc 25, none, false, [], false⟩,
 ⟨none, .store 25 (.tmp 6) (.tmp 60), none, false, [], false⟩])
 (.seq
 (.reg false [
 ⟨some 61, .fieldAddr 25 (.tmp 4) 4, none, false, [], false⟩,
 ⟨some 62, .load 23 (.tmp 61), none, false, [], false⟩,
 ⟨some 63, .call ⟨.value (.func 93), #[.tmp 62], #[23]⟩, none, false, [], false⟩,
 ⟨some 64, .fieldAddr 25 (.tmp 6) 4, none, false, [], false⟩,
 ⟨none, .store 23 (.tmp 64) (.tmp 63), none, false, [], false⟩])
 (.seq
 (.seq
 (.reg false [
 ⟨some 65, .load 25 (.tmp 6), none, false, [], false⟩,
 ⟨some 66, .load 25 (.tmp 4), none, false, [], false⟩,
 ⟨some 67, .call ⟨.value (.func 16), #[.tmp 65, .tmp 66], #[25, 25]⟩, none, false, [], false⟩,
 ⟨some 68, .unOp .not 4 (.tmp 67), none, false, [], false⟩])
 (.cond (.tmp 68)
 (.seq
 (.reg false [
 ⟨some 2, .assign (.const (.bool false)), none, false, [], false⟩])
 .ret)
 .skip))
 (.seq
 (.reg false [
 ⟨some 69, .fieldAddr 25 (.tmp 5) 4, none, false, [], false⟩,
 ⟨some 70, .load 23 (.tmp 69), none, false, [], false⟩,
 ⟨some 71, .call ⟨.builtin .len, #[.tmp 70], #[23]⟩, none, false, [], false⟩,
 ⟨some 72, .makeSlice 56 (.tmp 71) (.tmp 71), none, false, [], false⟩,
 ⟨some 7, .assign (.tmp 72), none, false, [], false⟩])
 (.seq
 (.reg false [
 ⟨some 73, .move (.tmp 7), none, false, [], false⟩,
 ⟨some 74, .indexAddr 56 (.tmp 73) (.const (.int .i64 0)), none, false, [], false⟩,
 ⟨none, .store 4 (.tmp 74) (.const (.bool true)), none, false, [], false⟩])
 (.seq
 (.seq
 (.reg false [
 ⟨some 8, .assign (.const (.int .i64 0)), none, false, [], false⟩])
 (.block 2
 (.loop
 (.seq
 (.seq
 (.reg false [
 ⟨some 75, .move (.tmp 8), none, false, [], false⟩,
 ⟨some 76, .fieldAddr 25 (.tmp 5) 4, none, false, [], false⟩,
 ⟨some 77, .load 23 (.tmp 76), none, false, [], false⟩,
 ⟨some 78, .call ⟨.builtin .len, #[.tmp 77], #[23]⟩, none, false, [], false⟩,
 ⟨some 79, .binOp .lss 3 (.tmp 75) (.tmp 78) 3, none, false, [], false⟩])
 (.cond (.tmp 79)
 .skip
 (.exit 2)))
 (.seq
 (.block 3
 (.seq
 (.reg false [
 ⟨some 9, .assign (.const (.int .i64 0)), none, false, [], false⟩])
 (.block 4
 (.loop
 (.seq
 (.seq
 (.reg false [
 ⟨some 82, .move (.tmp 9), none, false, [], false⟩,
 ⟨some 83, .fieldAddr 25 (.tmp 5) 4, none, false, [], false⟩,
 ⟨some 84, .load 23 (.tmp 83), none, false, [], false⟩,
 ⟨some 85, .call ⟨.builtin .len, #[.tmp 84], #[23]⟩, none, false, [], false⟩,
 ⟨some 86, .binOp .lss 3 (.tmp 82) (.tmp 85) 3, none, false, [], false⟩])
 (.cond (.tmp 86)
 .skip
 (.exit 4)))
 (.seq
 (.block 5
 (.seq
 (.reg false [
 ⟨some 89, .fieldAddr 25 (.tmp 5) 4, none, false, [], false⟩,
 ⟨some 90, .load 23 (.tmp 89), none, false, [], false⟩,
 ⟨some 91, .move (.tmp 9), none, false, [], false⟩,
 ⟨some 92, .indexAddr 23 (.tmp 90) (.tmp 91), none, false, [], false⟩,
 ⟨some 93, .fieldAddr 49 (.tmp 92) 1, none, false, [], false⟩,
 ⟨some 94, .load 29 (.tmp 93), none, false, [], false⟩,
 ⟨some 95, .call ⟨.value (.func 94), #[.tmp 94], #[29]⟩, none, false, [], false⟩,
 ⟨some 10, .assign (.tmp 95), none, false, [], false⟩])
 (.seq
 (.seq
 (.reg false [
 ⟨some 11, .assign (.const (.int .i64 0)), none, false, [], false⟩])
 (.block 6
 (.loop
 (.seq
 (.seq
 (.reg false [
 ⟨some 96, .move (.tmp 11), none, false, [], false⟩,
 ⟨some 97, .move (.tmp 10), none, false, [], false⟩,
 ⟨some 98, .call ⟨.builtin .len, #[.tmp 97], #[22]⟩, none, false, [], false⟩,
 ⟨some 99, .binOp .lss 3 (.tmp 96) (.tmp 98) 3, none, false, [], false⟩])
 (.cond (.tmp 99)
 .skip
 (.exit 6)))
 (.seq
 (.block 7
 (.seq
 (.reg true [
 ⟨some 102, .move (.tmp 7), none, false, [], false⟩,
 ⟨some 103, .move (.tmp 10), none, false, [], false⟩,
 ⟨some 104, .move (.tmp 11), none, false, [], false⟩,
 ⟨some 105, .indexAddr 22 (.tmp 103) (.tmp 104), none, false, [], false⟩,
 ⟨some 106, .load 3 (.tmp 105), none, false, [], false⟩,
 ⟨some 107, .move (.tmp 7), none, false, [], false⟩,
 ⟨some 108, .move (.tmp 10), none, false, [], false⟩,
 ⟨some 109, .move (.tmp 11), none, false, [], false⟩,
 ⟨some 110, .indexAddr 22 (.tmp 108) (.tmp 109), none, false, [], false⟩,
 ⟨some 111, .load 3 (.tmp 110), none, false, [], false⟩,
 ⟨some 112, .indexAddr 56 (.tmp 107) (.tmp 111), none, false, [], false⟩,
 ⟨some 113, .load 4 (.tmp 112), none, false, [], false⟩,
 ⟨some 114, .move (.tmp 113), none, false, [], false⟩,
 ⟨some 115, .move (.tmp 7), some (some 114, false), false, [], false⟩,
 ⟨some 116, .move (.tmp 9), some (some 114, false), false, [], false⟩,
 ⟨some 117, .indexAddr 56 (.tmp 115) (.tmp 116), some (some 114, false), false, [], false⟩,
 ⟨some 118, .load 4 (.tmp 117), some (some 114, false), false, [], false⟩,
 ⟨some 119, .pick (.tmp 114) (.const (.bool true)) (.tmp 118), none, false, [], false⟩,
 ⟨some 120, .indexAddr 56 (.tmp 102) (.tmp 106), none, false, [], false⟩,
 ⟨none, .store 4 (.tmp 120) (.tmp 119), none, false, [], false⟩])
 (.seq
 (.reg true [
 ⟨some 12, .alloc 49, none, false, [], false⟩,
 ⟨some 121, .fieldAddr 25 (.tmp 5) 4, none, false, [], false⟩,
 ⟨some 122, .load 23 (.tmp 121), none, false, [], false⟩,
 ⟨some 123, .move (.tmp 10), none, false, [], false⟩,
 ⟨some 124, .move (.tmp 11), none, false, [], false⟩,
 ⟨some 125, .indexAddr 22 (.tmp 123) (.tmp 124), none, false, [], false⟩,
 ⟨some 126, .load 3 (.tmp 125), none, false, [], false⟩,
 ⟨some 127, .indexAddr 23 (.tmp 122) (.tmp 126), none, false, [], false⟩,
 ⟨some 128, .load 49 (.tmp 127), none, false, [], false⟩,
 ⟨none, .store 49 (.tmp 12) (.tmp 128), none, false, [], false⟩])
 (.seq
 (.reg false [
 ⟨some 129, .fieldAddr 49 (.tmp 12) 0, none, false, [], false⟩,
 ⟨some 130, .load 47 (.tmp 129), none, false, [], false⟩,
 ⟨some 131, .call ⟨.builtin .len, #[.tmp 130], #[47]⟩, none, false, [], false⟩,
 ⟨some 132, .binOp .eql 3 (.tmp 131) (.const (.int .i64 0)) 3, none, false, [], false⟩,
 ⟨some 133, .move (.tmp 132), none, false, [], false⟩,
 ⟨some 134, .fieldAddr 49 (.tmp 12) 1, some (some 133, true), false, [], false⟩,
 ⟨some 135, .fieldAddr 29 (.tmp 134) 0, some (some 133, true), false, [], false⟩,
 ⟨some 136, .load 3 (.tmp 135), some (some 133, true), false, [], false⟩,
 ⟨some 137, .binOp .eql 3 (.tmp 136) (.const (.int .i64 1)) 3, some (some 133, true), false, [], false⟩,
 ⟨some 138, .pick (.tmp 133) (.tmp 137) (.const (.bool false)), none, false, [], false⟩,
 ⟨some 13, .assign (.tmp 138), none, false, [], false⟩])
 (.seq
 (.reg true [
 ⟨some 139, .move (.tmp 13), none, false, [], false⟩,
 ⟨some 140, .move (.tmp 139), none, false, [], false⟩,
 ⟨some 141, .move (.tmp 10), some (some 140, true), false, [], false⟩,
 ⟨some 142, .move (.tmp 11), some (some 140, true), false, [], false⟩,
 ⟨some 143, .indexAddr 22 (.tmp 141) (.tmp 142), some (some 140, true), false, [], false⟩,
 ⟨some 144, .load 3 (.tmp 143), some (some 140, true), false, [], false⟩,
 ⟨some 145, .binOp .neq 3 (.tmp 144) (.const (.int .i64 0)) 3, some (some 140, true), false, [], false⟩,
 ⟨some 146, .pick (.tmp 140) (.tmp 145) (.const (.bool false)), none, false, [], false⟩,
 ⟨some 147, .move (.tmp 146), none, false, [], false⟩,
 ⟨some 148, .fieldAddr 49 (.tmp 12) 1, some (some 147, true), false, [], false⟩,
 ⟨some 149, .fieldAddr 29 (.tmp 148) 2, some (some 147, true), false, [], false⟩,
 ⟨some 150, .load 3 (.tmp 149), some (some 147, true), false, [], false⟩,
 ⟨some 151, .move (.tmp 10), some (some 147, true), false, [], false⟩,
 ⟨some 152, .move (.tmp 11), some (some 147, true), false, [], false⟩,
 ⟨some 153, .indexAddr 22 (.tmp 151) (.tmp 152), some (some 147, true), false, [], false⟩,
 ⟨some 154, .load 3 (.tmp 153), some (some 147, true), false, [], false⟩,
 ⟨some 155, .binOp .neq 3 (.tmp 150) (.tmp 154) 3, some (some 147, true), false, [], false⟩,
 ⟨some 156, .pick (.tmp 147) (.tmp 155) (.const (.bool false)), none, false, [], false⟩])
 (.cond (.tmp 156)
 (.seq
 (.reg false [
 ⟨some 2, .assign (.const (.bool false)), none, false, [], false⟩])
 .ret)
 .skip))))))
 (.reg false [
 ⟨some 100, .move (.tmp 11), none, false, [], false⟩,
 ⟨some 101, .binOp .add 3 (.tmp 100) (.const (.int .i64 1)) 3, none, false, [], false⟩,
 ⟨some 11, .assign (.tmp 101), none, false, [], false⟩]))))))
 (.seq
 (.reg true [
 ⟨some 157, .move (.tmp 10), none, false, [], false⟩,
 ⟨some 158, .call ⟨.builtin .len, #[.tmp 157], #[22]⟩, none, false, [], false⟩,
 ⟨some 159, .binOp .eql 3 (.tmp 158) (.const (.int .i64 2)) 3, none, false, [], false⟩,
 ⟨some 160, .move (.tmp 159), none, false, [], false⟩,
 ⟨some 161, .move (.tmp 10), some (some 160, true), false, [], false⟩,
 ⟨some 162, .indexAddr 22 (.tmp 161) (.const (.int .i64 0)), some (some 160, true), false, [], false⟩,
 ⟨some 163, .load 3 (.tmp 162), some (some 160, true), false, [], false⟩,
 ⟨some 164, .move (.tmp 10), some (some 160, true), false, [], false⟩,
 ⟨some 165, .indexAddr 22 (.tmp 164) (.const (.int .i64 1)), some (some 160, true), false, [], false⟩,
 ⟨some 166, .load 3 (.tmp 165), some (some 160, true), false, [], false⟩,
 ⟨some 167, .binOp .eql 3 (.tmp 163) (.tmp 166) 3, some (some 160, true), false, [], false⟩,
 ⟨some 168, .pick (.tmp 160) (.tmp 167) (.const (.bool false)), none, false, [], false⟩])
 (.cond (.tmp 168)
 (.seq
 (.reg false [
 ⟨some 2, .assign (.const (.bool false)), none, false, [], false⟩])
 .ret)
 .skip)))))
 (.reg false [
 ⟨some 87, .move (.tmp 9), none, false, [], false⟩,
 ⟨some 88, .binOp .add 3 (.tmp 87) (.const (.int .i64 1)) 3, none, false, [], false⟩,
 ⟨some 9, .assign (.tmp 88), none, false, [], false⟩])))))))
 (.reg false [
 ⟨some 80, .move (.tmp 8), none, false, [], false⟩,
 ⟨some 81, .binOp .add 3 (.tmp 80) (.const (.int .i64 1)) 3, none, false, [], false⟩,
 ⟨some 8, .assign (.tmp 81), none, false, [], false⟩]))))))
 (.seq
 (.reg false [
 ⟨some 14, .assign (.const (.int .i64 0)), none, false, [], false⟩])
 (.block 8
 (.loop
 (.seq
 (.seq
 (.reg false [
 ⟨some 169, .move (.tmp 14), none, false, [], false⟩,
 ⟨some 170, .move (.tmp 7), none, false, [], false⟩,
 ⟨some 171, .call ⟨.builtin .len, #[.tmp 170], #[56]⟩, none, false, [], false⟩,
 ⟨some 172, .binOp .lss 3 (.tmp 169) (.tmp 171) 3, none, false, [], false⟩])
 (.cond (.tmp 172)
 .skip
 (.exit 8)))
 (.seq
 (.block 9
 (.seq
 (.reg false [
 ⟨some 175, .move (.tmp 7), none, false, [], false⟩,
 ⟨some 176, .move (.tmp 14), none, false, [], false⟩,
 ⟨some 177, .indexAddr 56 (.tmp 175) (.tmp 176), none, false, [], false⟩,
 ⟨some 178, .load 4 (.tmp 177), none, false, [], false⟩,
 ⟨some 179, .unOp .not 4 (.tmp 178), none, false, [], false⟩])
 (.cond (.tmp 179)
 (.seq
 (.reg false [
 ⟨some 2, .assign (.const (.bool false)), none, false, [], false⟩])
 .ret)
 .skip)))
 (.reg false [
 ⟨some 173, .move (.tmp 14), none, false, [], false⟩,
 ⟨some 174, .binOp .add 3 (.tmp 173) (.const (.int .i64 1)) 3, none, false, [], false⟩,
 ⟨some 14, .assign (.tmp 174), none, false, [], false⟩]))))))))))))))))
 (.reg false [
 ⟨some 23, .move (.tmp 3), none, false, [], false⟩,
 ⟨some 24, .binOp .add 3 (.tmp 23) (.const (.int .i64 1)) 3, none, false, [], false⟩,
 ⟨some 3, .assign (.tmp 24), none, false, [], false⟩]))))))
 (.seq
 (.reg false [
 ⟨some 180, .call ⟨.value (.func 40), #[], #[]⟩, none, false, [], false⟩,
 ⟨some 2, .assign (.tmp 180), none, false, [], false⟩])
 .ret))))
noncomputable def fi38 : FI := ⟨c38, 181, [.tmp 2], .plain⟩
noncomputable def c39 : XC :=
 (.seq
 (.reg false [
 ⟨some 3, .box 36 (.tmp 0), none, false, [], false⟩,
 ⟨some 6, .assign (.const (.bool false)), none, false, [], false⟩])
 (.seq
 (.seq
 (.reg false [
 ⟨some 10, .load 36 (.tmp 3), none, false, [], false⟩,
 ⟨some 11, .call ⟨.value (.func 89), #[.tmp 10], #[36]⟩, none, false, [], false⟩,
 ⟨some 12, .move (.tmp 11), none, false, [], false⟩,
 ⟨some 13, .move (.tmp 1), some (some 12, false), false, [], false⟩,
 ⟨some 14, .call ⟨.builtin .len, #[.tmp 13], #[22]⟩, some (some 12, false), false, [], false⟩,
 ⟨some 15, .binOp .gtr 3 (.tmp 14) (.const (.int .i64 1000)) 3, some (some 12, false), false, [], false⟩,
 ⟨some 16, .pick (.tmp 12) (.const (.bool true)) (.tmp 15), none, false, [], false⟩])
 (.cond (.tmp 16)
 (.seq
 (.reg false [
 ⟨some 17, .call ⟨.value (.func 40), #[], #[]⟩, none, false, [], false⟩,
 ⟨some 6, .assign (.tmp 17), none, false, [], false⟩])
 .ret)
 .skip))
 (.seq
 (.reg false [
 ⟨some 18, .load 36 (.tmp 3), none, false, [], false⟩,
 ⟨some 19, .call ⟨.value (.func 95), #[.tmp 18], #[36]⟩, none, false, [], false⟩,
 ⟨some 7, .alloc 36, none, false, [], false⟩,
 ⟨none, .store 36 (.tmp 7) (.tmp 19), none, false, [], false⟩])
 (.seq
 (.reg false [
 ⟨some 20, .move (.tmp 2), none, false, [], false⟩,
 ⟨some 21, .call ⟨.value (.func 60), #[.tmp 20, .const (.int .i64 3000)], #[3, 3]⟩, none, false, [], false⟩,
 ⟨some 2, .assign (.tmp 21), none, false, [], false⟩])
 (.seq
 (.reg false [
 ⟨some 22, .load 36 (.tmp 3), none, false, [], false⟩,
 ⟨some 23, .move (.tmp 1), none, false, [], false⟩,
 ⟨some 24, .move (.tmp 2), none, false, [], false⟩,
 ⟨some 25, .call ⟨.value (.func 42), #[.tmp 22, .tmp 23, .tmp 24], #[36, 22, 3]⟩, none, false, [], false⟩,
 ⟨some 8, .alloc 66, none, false, [], false⟩,
 ⟨none, .store 66 (.tmp 8) (.tmp 25), none, false, [], false⟩])
 (.seq
 (.reg false [
 ⟨some 26, .load 36 (.tmp 7), none, false, [], false⟩,
 ⟨some 27, .move (.tmp 1), none, false, [], false⟩,
 ⟨some 28, .move (.tmp 2), none, false, [], false⟩,
 ⟨some 29, .call ⟨.value (.func 42), #[.tmp 26, .tmp 27, .tmp 28], #[36, 22, 3]⟩, none, false, [], false⟩,
 ⟨some 9, .alloc 66, none, false, [], false⟩,
 ⟨none, .store 66 (.tmp 9) (.tmp 29), none, false, [], false⟩])
 (.seq
 (.seq
 (.reg false [
 ⟨some 30, .load 36 (.tmp 7), none, false, [], false⟩,
 ⟨some 31, .call ⟨.value (.func 36), #[.tmp 30], #[36]⟩, none, false, [], false⟩,
 ⟨some 32, .binOp .neq 62 (.tmp 31) (.const (.int .i64 0)) 62, none, false, [], false⟩,
 ⟨some 33, .move (.tmp 32), none, false, [], false⟩,
 ⟨some 34, .fieldAddr 66 (.tmp 8) 1, some (some 33, false), false, [], false⟩,
 ⟨some 35, .load 3 (.tmp 34), some (some 33, false), false, [], false⟩,
 ⟨some 36, .binOp .neq 3 (.tmp 35) (.const (.int .i64 3)) 3, some (some 33, false), false, [], false⟩,
 ⟨some 37, .move (.tmp 36), some (some 33, false), false, [], false⟩,
 ⟨some 38, .load 66 (.tmp 8), some (some 37, true), false, [], false⟩,
 ⟨some 39, .load 66 (.tmp 9), some (some 37, true), false, [], false⟩,
 ⟨some 40, .call ⟨.value (.func 43), #[.tmp 38, .tmp 39], #[66, 66]⟩, some (some 37, true), false, [], false⟩,
 ⟨some 41, .unOp .not 4 (.tmp 40), some (some 37, true), false, [], false⟩,
 ⟨some 42, .pick (.tmp 37) (.tmp 41) (.const (.bool false)), some (some 33, false), false, [], false⟩,
 ⟨some 43, .pick (.tmp 33) (.const (.bool true)) (.tmp 42), none, false, [], false⟩])
 (.cond (.tmp 43)
 (.seq
 (.reg false [
 ⟨some 6, .assign (.const (.bool false)), none, false, [], false⟩])
 .ret)
 .skip))
 (.seq
 (.reg false [
 ⟨some 44, .fieldAddr 66 (.tmp 9) 0, none, false, [], false⟩,
 ⟨some 45, .load 22 (.tmp 44), none, false, [], false⟩,
 ⟨some 46, .fieldAddr 66 (.tmp 8) 0, none, false, [], false⟩,
 ⟨some 47, .load 22 (.tmp 46), none, false, [], false⟩,
 ⟨some 48, .call ⟨.value (.func 96), #[.tmp 45, .tmp 47], #[22, 22]⟩, none, false, [], false⟩,
 ⟨some 49, .move (.tmp 48), none, false, [], false⟩,
 ⟨some 50, .call ⟨.value (.func 40), #[], #[]⟩, some (some 49, true), false, [], false⟩,
 ⟨some 51, .pick (.tmp 49) (.tmp 50) (.const (.bool false)), none, false, [], false⟩,
 ⟨some 6, .assign (.tmp 51), none, false, [], false⟩])
 .ret))))))))
noncomputable def fi39 : FI := ⟨c39, 52, [.tmp 6], .plain⟩
noncomputable def c40 : XC :=
 (.seq
 (.reg false [
 ⟨some 0, .assign (.const (.bool false)), none, false, [], false⟩])
 (.seq
 (.reg false [
 ⟨some 4, .call ⟨.value (.func 33), #[.const (.int .i64 1)], #[3]⟩, none, false, [], false⟩,
 ⟨some 5, .build 49 #[(1, .tmp 4)], none, false, [], false⟩,
 ⟨some 6, .call ⟨.value (.func 33), #[.const (.int .i64 2)], #[3]⟩, none, false, [], false⟩,
 ⟨some 7, .build 49 #[(1, .tmp 6)], none, false, [], false⟩,
 ⟨some 8, .call ⟨.value (.func 35), #[], #[]⟩, none, false, [], false⟩,
 ⟨some 9, .build 49 #[(1, .tmp 8)], none, false, [], false⟩,
 ⟨some 10, .buildSlice 23 3 #[(0, .tmp 5), (1, .tmp 7), (2, .tmp 9)], none, false, [], false⟩,
 ⟨some 11, .call ⟨.value (.func 32), #[.tmp 10], #[23]⟩, none, false, [], false⟩,
 ⟨some 12, .call ⟨.value (.func 90), #[.tmp 11], #[25]⟩, none, false, [], false⟩,
 ⟨some 1, .alloc 25, none, false, [], false⟩,
 ⟨none, .store 25 (.tmp 1) (.tmp 12), none, false, [], false⟩])
 (.seq
 (.reg false [
 ⟨some 13, .build 29 #[(0, .const (.int .i64 2)), (1, .const (.int .i64 1)), (2, .const (.int .i64 1)), (3, .const (.int .i64 2))], none, false, [], false⟩,
 ⟨some 14, .build 49 #[(1, .tmp 13)], none, false, [], false⟩,
 ⟨some 15, .call ⟨.value (.func 33), #[.const (.int .i64 3)], #[3]⟩, none, false, [], false⟩,
 ⟨some 16, .build 49 #[(1, .tmp 15)], none, false, [], false⟩,
 ⟨some 17, .call ⟨.value (.func 33), #[.const (.int .i64 3)], #[3]⟩, none, false, [], false⟩,
 ⟨some 18, .build 49 #[(1, .tmp 17)], none, false, [], false⟩,
 ⟨some 19, .call ⟨.value (.func 35), #[], #[]⟩, none, false, [], false⟩,
 ⟨some 20, .call ⟨.value (.func 34), #[.tmp 19], #[29]⟩, none, false, [], false⟩,
 ⟨some 21, .buildSlice 23 4 #[(0, .tmp 14), (1, .tmp 16), (2, .tmp 18), (3, .tmp 20)], none, false, [], false⟩,
 ⟨some 22, .call ⟨.value (.func 32), #[.tmp 21], #[23]⟩, none, false, [], false⟩,
 ⟨some 23, .call ⟨.value (.func 90), #[.tmp 22], #[25]⟩, none, false, [], false⟩,
 ⟨some 2, .alloc 25, none, false, [], false⟩,
 ⟨none, .store 25 (.tmp 2) (.tmp 23), none, false, [], false⟩])
 (.seq
 (.reg false [
 ⟨some 24, .call ⟨.value (.func 33), #[.const (.int .i64 1)], #[3]⟩, none, false, [], false⟩,
 ⟨some 25, .call ⟨.value (.func 34), #[.tmp 24], #[29]⟩, none, false, [], false⟩,
 ⟨some 26, .call ⟨.value (.func 33), #[.const (.int .i64 2)], #[3]⟩, none, false, [], false⟩,
 ⟨some 27, .build 49 #[(1, .tmp 26)], none, false, [], false⟩,
 ⟨some 28, .call ⟨.value (.func 33), #[.const (.int .i64 1)], #[3]⟩, none, false, [], false⟩,
 ⟨some 29, .build 49 #[(1, .tmp 28)], none, false, [], false⟩,
 ⟨some 30, .buildSlice 23 3 #[(0, .tmp 25), (1, .tmp 27), (2, .tmp 29)], none, false, [], false⟩,
 ⟨some 31, .call ⟨.value (.func 32), #[.tmp 30], #[23]⟩, none, false, [], false⟩,
 ⟨some 32, .call ⟨.value (.func 90), #[.tmp 31], #[25]⟩, none, false, [], false⟩,
 ⟨some 3, .alloc 25, none, false, [], false⟩,
 ⟨none, .store 25 (.tmp 3) (.tmp 32), none, false, [], false⟩])
 (.seq
 (.reg true [
 ⟨some 34, .call ⟨.value (.func 35), #[], #[]⟩, none, true, [true, true, true, false, true, true, true, true, true, true, true, true, true, true, true, true, true, true, true, true, true, true, true, true], false⟩,
 ⟨some 35, .build 49 #[(1, .tmp 34)], none, false, [], false⟩,
 ⟨some 36, .buildSlice 23 1 #[(0, .tmp 35)], none, false, [], false⟩,
 ⟨some 37, .call ⟨.value (.func 32), #[.tmp 36], #[23]⟩, none, true, [false, true, true, true, true, true, true, true, true, true, true, true, true, true, true, true, true, true, true, true, true], false⟩,
 ⟨some 33, .load 25 (.tmp 1), none, false, [], true⟩,
 ⟨some 38, .call ⟨.value (.func 16), #[.tmp 33, .tmp 37], #[25, 25]⟩, none, false, [true, true, true, true, true, true, true, true, true, true, true, true, true, true, true, true, true, true, true], false⟩,
 ⟨some 39, .move (.tmp 38), none, false, [], false⟩,
 ⟨some 41, .call ⟨.value (.func 35), #[], #[]⟩, some (some 39, true), true, [true, true, true, false, true, true, true, true, true, true, true, true, true, true, true, true, true], false⟩,
 ⟨some 42, .call ⟨.value (.func 34), #[.tmp 41], #[29]⟩, some (some 39, true), true, [true, true, false, true, true, true, true, true, true, true, true, true, true, true, true, true], false⟩,
 ⟨some 43, .buildSlice 23 1 #[(0, .tmp 42)], some (some 39, true), false, [], false⟩,
 ⟨some 44, .call ⟨.value (.func 32), #[.tmp 43], #[23]⟩, some (some 39, true), true, [false, true, true, true, true, true, true, true, true, true, true, true, true, true], false⟩,
 ⟨some 40, .load 25 (.tmp 2), some (some 39, true), false, [], true⟩,
 ⟨some 45, .call ⟨.value (.func 16), #[.tmp 40, .tmp 44], #[25, 25]⟩, some (some 39, true), false, [true, true, true, true, true, true, true, true, true, true, true, true], false⟩,
 ⟨some 46, .pick (.tmp 39) (.tmp 45) (.const (.bool false)), none, false, [], false⟩,
 ⟨some 47, .move (.tmp 46), none, false, [], false⟩,
 ⟨some 49, .call ⟨.value (.func 33), #[.const (.int .i64 1)], #[3]⟩, some (some 47, true), true, [true, true, true, true, true, false, true, true, true], false⟩,
 ⟨some 50, .call ⟨.value (.func 34), #[.tmp 49], #[29]⟩, some (some 47, true), true, [true, true, true, true, false, true, true, true], false⟩,
 ⟨some 51, .call ⟨.value (.func 33), #[.const (.int .i64 1)], #[3]⟩, some (some 47, true), true, [true, true, true, false, true, true, true], false⟩,
 ⟨some 52, .build 49 #[(1, .tmp 51)], some (some 47, true), false, [], false⟩,
 ⟨some 53, .buildSlice 23 2 #[(0, .tmp 50), (1, .tmp 52)], some (some 47, true), false, [], false⟩,
 ⟨some 54, .call ⟨.value (.func 32), #[.tmp 53], #[23]⟩, some (some 47, true), true, [false, true, true, true], false⟩,
 ⟨some 48, .load 25 (.tmp 3), some (some 47, true), false, [], true⟩,
 ⟨some 55, .call ⟨.value (.func 16), #[.tmp 48, .tmp 54], #[25, 25]⟩, some (some 47, true), false, [true, true], false⟩,
 ⟨some 56, .pick (.tmp 47) (.tmp 55) (.const (.bool false)), none, false, [], false⟩,
 ⟨some 0, .assign (.tmp 56), none, false, [], false⟩])
 .ret)))))
noncomputable def fi40 : FI := ⟨c40, 57, [.tmp 0], .plain⟩
noncomputable def c42 : XC :=
 (.seq
 (.reg false [
 ⟨some 3, .box 36 (.tmp 0), none, false, [], false⟩,
 ⟨some 6, .alloc 66, none, false, [], false⟩])
 (.seq
 (.reg false [
 ⟨some 11, .load 36 (.tmp 3), none, false, [], false⟩,
 ⟨some 12, .move (.tmp 1), none, false, [], false⟩,
 ⟨some 13, .move (.tmp 2), none, false, [], false⟩,
 ⟨some 14, .build 116 #[(0, .tmp 11), (1, .tmp 12), (2, .tmp 13)], none, false, [], false⟩,
 ⟨some 15, .box 116 (.tmp 14), none, false, [], false⟩,
 ⟨some 7, .alloc 114, none, false, [], false⟩,
 ⟨none, .store 114 (.tmp 7) (.tmp 15), none, false, [], false⟩])
 (.seq
 (.seq
 (.reg false [
 ⟨some 16, .fieldAddr 36 (.tmp 3) 0, none, false, [], false⟩,
 ⟨some 17, .load 34 (.tmp 16), none, false, [], false⟩,
 ⟨some 18, .call ⟨.builtin .len, #[.tmp 17], #[34]⟩, none, false, [], false⟩,
 ⟨some 19, .move (.const (.int .i64 0)), none, false, [], false⟩])
 (.block 0
 (.loop
 (.seq
 (.reg false [
 ⟨some 20, .binOp .lss 3 (.tmp 19) (.tmp 18) 3, none, false, [], false⟩])
 (.seq
 (.cond (.tmp 20)
 .skip
 (.exit 0))
 (.seq
 (.block 1
 (.seq
 (.reg false [
 ⟨some 21, .indexAddr 34 (.tmp 17) (.tmp 19), none, false, [], false⟩,
 ⟨some 22, .load 105 (.tmp 21), none, false, [], false⟩,
 ⟨some 9, .alloc 105, none, false, [], false⟩,
 ⟨none, .store 105 (.tmp 9) (.tmp 22), none, false, [], false⟩])
 (.reg true [
 ⟨some 28, .fieldAddr 105 (.tmp 9) 2, none, false, [], false⟩,
 ⟨some 29, .load 3 (.tmp 28), none, false, [], false⟩,
 ⟨some 30, .call ⟨.builtin .max, #[.tmp 29, .const (.int .i64 1)], #[3, 3]⟩, none, false, [], false⟩,
 ⟨some 31, .makeSlice 22 (.tmp 30) (.tmp 30), none, false, [], false⟩,
 ⟨some 32, .buildSlice 87 1 #[(0, .tmp 31)], none, false, [], false⟩,
 ⟨some 24, .load 114 (.tmp 7), none, false, [], false⟩,
 ⟨some 25, .nilCheck (.tmp 24), none, false, [], false⟩,
 ⟨some 26, .fieldAddr 116 (.tmp 25) 3, none, false, [], false⟩,
 ⟨some 27, .load 87 (.tmp 26), none, false, [], false⟩,
 ⟨some 33, .call ⟨.builtin .append, #[.tmp 27, .tmp 32], #[87, 87]⟩, none, true, [false, true, true, true], false⟩,
 ⟨some 23, .load 114 (.tmp 7), none, false, [], true⟩,
 ⟨some 34, .nilCheck (.tmp 23), none, false, [], false⟩,
 ⟨some 35, .fieldAddr 116 (.tmp 34) 3, none, false, [], false⟩,
 ⟨none, .store 87 (.tmp 35) (.tmp 33), none, false, [], false⟩])))
 (.reg false [
 ⟨some 36, .binOp .add 3 (.tmp 19) (.const (.int .i64 1)) 3, none, false, [], false⟩,
 ⟨some 19, .move (.tmp 36), none, false, [], false⟩])))))))
 (.seq
 .bad
 (.seq
 (.reg true [
 ⟨some 39, .load 36 (.tmp 3), none, false, [], false⟩,
 ⟨some 40, .call ⟨.value (.func 88), #[.tmp 39], #[36]⟩, none, true, [false, true, true], false⟩,
 ⟨some 38, .load 114 (.tmp 7), none, false, [], true⟩,
 ⟨some 41, .call ⟨.value (.func 101), #[.tmp 38, .tmp 40, .const (.slice none 0 0)], #[114, 3, 22]⟩, none, false, [true], false⟩,
 ⟨some 10, .assign (.tmp 41), none, false, [], false⟩])
 (.seq
 (.reg false [
 ⟨some 42, .load 114 (.tmp 7), none, false, [], false⟩,
 ⟨some 43, .nilCheck (.tmp 42), none, false, [], false⟩,
 ⟨some 44, .fieldAddr 116 (.tmp 43) 4, none, false, [], false⟩,
 ⟨some 45, .fieldAddr 66 (.tmp 44) 0, none, false, [], false⟩,
 ⟨some 46, .load 22 (.tmp 45), none, false, [], false⟩,
 ⟨some 47, .move (.tmp 10), none, false, [], false⟩,
 ⟨some 48, .build 66 #[(0, .tmp 46), (1, .const (.int .i64 1)), (2, .tmp 47)], none, false, [], false⟩,
 ⟨none, .store 66 (.tmp 6) (.tmp 48), none, false, [], false⟩])
 .ret))))))
noncomputable def fi42 : FI := ⟨c42, 49, [.cell 6 66], .dfr [(.reg false [
 ⟨some 3, .box 36 (.tmp 0), none, false, [], false⟩,
 ⟨some 6, .alloc 66, none, false, [], false⟩]), (.reg false [
 ⟨some 11, .load 36 (.tmp 3), none, false, [], false⟩,
 ⟨some 12, .move (.tmp 1), none, false, [], false⟩,
 ⟨some 13, .move (.tmp 2), none, false, [], false⟩,
 ⟨some 14, .build 116 #[(0, .tmp 11), (1, .tmp 12), (2, .tmp 13)], none, false, [], false⟩,
 ⟨some 15, .box 116 (.tmp 14), none, false, [], false⟩,
 ⟨some 7, .alloc 114, none, false, [], false⟩,
 ⟨none, .store 114 (.tmp 7) (.tmp 15), none, false, [], false⟩]), (.seq
 (.reg false [
 ⟨some 16, .fieldAddr 36 (.tmp 3) 0, none, false, [], false⟩,
 ⟨some 17, .load 34 (.tmp 16), none, false, [], false⟩,
 ⟨some 18, .call ⟨.builtin .len, #[.tmp 17], #[34]⟩, none, false, [], false⟩,
 ⟨some 19, .move (.const (.int .i64 0)), none, false, [], false⟩])
 (.block 0
 (.loop
 (.seq
 (.reg false [
 ⟨some 20, .binOp .lss 3 (.tmp 19) (.tmp 18) 3, none, false, [], false⟩])
 (.seq
 (.cond (.tmp 20)
 .skip
 (.exit 0))
 (.seq
 (.block 1
 (.seq
 (.reg false [
 ⟨some 21, .indexAddr 34 (.tmp 17) (.tmp 19), none, false, [], false⟩,
 ⟨some 22, .load 105 (.tmp 21), none, false, [], false⟩,
 ⟨some 9, .alloc 105, none, false, [], false⟩,
 ⟨none, .store 105 (.tmp 9) (.tmp 22), none, false, [], false⟩])
 (.reg true [
 ⟨some 28, .fieldAddr 105 (.tmp 9) 2, none, false, [], false⟩,
 ⟨some 29, .load 3 (.tmp 28), none, false, [], false⟩,
 ⟨some 30, .call ⟨.builtin .max, #[.tmp 29, .const (.int .i64 1)], #[3, 3]⟩, none, false, [], false⟩,
 ⟨some 31, .makeSlice 22 (.tmp 30) (.tmp 30), none, false, [], false⟩,
 ⟨some 32, .buildSlice 87 1 #[(0, .tmp 31)], none, false, [], false⟩,
 ⟨some 24, .load 114 (.tmp 7), none, false, [], false⟩,
 ⟨some 25, .nilCheck (.tmp 24), none, false, [], false⟩,
 ⟨some 26, .fieldAddr 116 (.tmp 25) 3, none, false, [], false⟩,
 ⟨some 27, .load 87 (.tmp 26), none, false, [], false⟩,
 ⟨some 33, .call ⟨.builtin .append, #[.tmp 27, .tmp 32], #[87, 87]⟩, none, true, [false, true, true, true], false⟩,
 ⟨some 23, .load 114 (.tmp 7), none, false, [], true⟩,
 ⟨some 34, .nilCheck (.tmp 23), none, false, [], false⟩,
 ⟨some 35, .fieldAddr 116 (.tmp 34) 3, none, false, [], false⟩,
 ⟨none, .store 87 (.tmp 35) (.tmp 33), none, false, [], false⟩])))
 (.reg false [
 ⟨some 36, .binOp .add 3 (.tmp 19) (.const (.int .i64 1)) 3, none, false, [], false⟩,
 ⟨some 19, .move (.tmp 36), none, false, [], false⟩]))))))), (.reg false [
 ⟨some 37, .makeFunc (.func 100) #[] #[.tmp 7, .tmp 6], none, false, [], false⟩])] (.tmp 37) (.seq
 (.reg true [
 ⟨some 39, .load 36 (.tmp 3), none, false, [], false⟩,
 ⟨some 40, .call ⟨.value (.func 88), #[.tmp 39], #[36]⟩, none, true, [false, true, true], false⟩,
 ⟨some 38, .load 114 (.tmp 7), none, false, [], true⟩,
 ⟨some 41, .call ⟨.value (.func 101), #[.tmp 38, .tmp 40, .const (.slice none 0 0)], #[114, 3, 22]⟩, none, false, [true], false⟩,
 ⟨some 10, .assign (.tmp 41), none, false, [], false⟩])
 (.seq
 (.reg false [
 ⟨some 42, .load 114 (.tmp 7), none, false, [], false⟩,
 ⟨some 43, .nilCheck (.tmp 42), none, false, [], false⟩,
 ⟨some 44, .fieldAddr 116 (.tmp 43) 4, none, false, [], false⟩,
 ⟨some 45, .fieldAddr 66 (.tmp 44) 0, none, false, [], false⟩,
 ⟨some 46, .load 22 (.tmp 45), none, false, [], false⟩,
 ⟨some 47, .move (.tmp 10), none, false, [], false⟩,
 ⟨some 48, .build 66 #[(0, .tmp 46), (1, .const (.int .i64 1)), (2, .tmp 47)], none, false, [], false⟩,
 ⟨none, .store 66 (.tmp 6) (.tmp 48), none, false, [], false⟩])
 .ret))⟩
noncomputable def c43 : XC :=
 (.seq
 (.reg false [
 ⟨some 2, .box 66 (.tmp 0), none, false, [], false⟩,
 ⟨some 3, .box 66 (.tmp 1), none, false, [], false⟩,
 ⟨some 4, .assign (.const (.bool false)), none, false, [], false⟩])
 (.seq
 (.reg false [
 ⟨some 5, .fieldAddr 66 (.tmp 2) 1, none, false, [], false⟩,
 ⟨some 6, .load 3 (.tmp 5), none, false, [], false⟩,
 ⟨some 7, .fieldAddr 66 (.tmp 3) 1, none, false, [], false⟩,
 ⟨some 8, .load 3 (.tmp 7), none, false, [], false⟩,
 ⟨some 9, .binOp .eql 3 (.tmp 6) (.tmp 8) 3, none, false, [], false⟩,
 ⟨some 10, .move (.tmp 9), none, false, [], false⟩,
 ⟨some 11, .fieldAddr 66 (.tmp 2) 2, some (some 10, true), false, [], false⟩,
 ⟨some 12, .load 3 (.tmp 11), some (some 10, true), false, [], false⟩,
 ⟨some 13, .fieldAddr 66 (.tmp 3) 2, some (some 10, true), false, [], false⟩,
 ⟨some 14, .load 3 (.tmp 13), some (some 10, true), false, [], false⟩,
 ⟨some 15, .binOp .eql 3 (.tmp 12) (.tmp 14) 3, some (some 10, true), false, [], false⟩,
 ⟨some 16, .pick (.tmp 10) (.tmp 15) (.const (.bool false)), none, false, [], false⟩,
 ⟨some 17, .move (.tmp 16), none, false, [], false⟩,
 ⟨some 18, .fieldAddr 66 (.tmp 2) 0, some (some 17, true), false, [], false⟩,
 ⟨some 19, .load 22 (.tmp 18), some (some 17, true), false, [], false⟩,
 ⟨some 20, .fieldAddr 66 (.tmp 3) 0, some (some 17, true), false, [], false⟩,
 ⟨some 21, .load 22 (.tmp 20), some (some 17, true), false, [], false⟩,
 ⟨some 22, .call ⟨.value (.func 61), #[.tmp 19, .tmp 21], #[22, 22]⟩, some (some 17, true), false, [], false⟩,
 ⟨some 23, .pick (.tmp 17) (.tmp 22) (.const (.bool false)), none, false, [], false⟩,
 ⟨some 4, .assign (.tmp 23), none, false, [], false⟩])
 .ret))
noncomputable def fi43 : FI := ⟨c43, 24, [.tmp 4], .plain⟩
noncomputable def c51 : XC :=
 (.seq
 (.reg false [
 ⟨some 2, .assign (.const (.slice none 0 0)), none, false, [], false⟩])
 (.seq
 (.seq
 (.reg false [
 ⟨some 3, .move (.tmp 0), none, false, [], false⟩,
 ⟨some 4, .binOp .eql 22 (.tmp 3) (.const (.slice none 0 0)) 22, none, false, [], false⟩])
 (.cond (.tmp 4)
 (.seq
 (.reg false [
 ⟨some 2, .assign (.const (.slice none 0 0)), none, false, [], false⟩])
 .ret)
 .skip))
 (.seq
 (.reg false [
 ⟨some 5, .buildSlice 22 0 #[], none, false, [], false⟩,
 ⟨some 6, .move (.tmp 0), none, false, [], false⟩,
 ⟨some 7, .call ⟨.builtin .append, #[.tmp 5, .tmp 6], #[22, 22]⟩, none, false, [], false⟩,
 ⟨some 2, .assign (.tmp 7), none, false, [], false⟩])
 .ret)))
noncomputable def fi51 : FI := ⟨c51, 8, [.tmp 2], .plain⟩
noncomputable def c53 : XC :=
 (.seq
 (.reg false [
 ⟨some 2, .assign (.const (.slice none 0 0)), none, false, [], false⟩])
 (.seq
 (.seq
 (.reg false [
 ⟨some 3, .move (.tmp 0), none, false, [], false⟩,
 ⟨some 4, .binOp .eql 47 (.tmp 3) (.const (.slice none 0 0)) 47, none, false, [], false⟩])
 (.cond (.tmp 4)
 (.seq
 (.reg false [
 ⟨some 2, .assign (.const (.slice none 0 0)), none, false, [], false⟩])
 .ret)
 .skip))
 (.seq
 (.reg false [
 ⟨some 5, .buildSlice 47 0 #[], none, false, [], false⟩,
 ⟨some 6, .move (.tmp 0), none, false, [], false⟩,
 ⟨some 7, .call ⟨.builtin .append, #[.tmp 5, .tmp 6], #[47, 47]⟩, none, false, [], false⟩,
 ⟨some 2, .assign (.tmp 7), none, false, [], false⟩])
 .ret)))
noncomputable def fi53 : FI := ⟨c53, 8, [.tmp 2], .plain⟩
noncomputable def c56 : XC :=
 (.seq
 (.reg false [
 ⟨some 1, .box 25 (.tmp 0), none, false, [], false⟩,
 ⟨some 2, .alloc 25, none, false, [], false⟩])
 (.seq
 (.reg false [
 ⟨some 3, .fieldAddr 25 (.tmp 1) 3, none, false, [], false⟩,
 ⟨some 4, .load 22 (.tmp 3), none, false, [], false⟩,
 ⟨some 5, .call ⟨.value (.func 109), #[.tmp 4], #[22]⟩, none, false, [], false⟩,
 ⟨some 6, .fieldAddr 25 (.tmp 1) 3, none, false, [], false⟩,
 ⟨none, .store 22 (.tmp 6) (.tmp 5), none, false, [], false⟩])
 (.seq
 (.reg false [
 ⟨some 7, .fieldAddr 25 (.tmp 1) 4, none, false, [], false⟩,
 ⟨some 8, .load 23 (.tmp 7), none, false, [], false⟩,
 ⟨some 9, .call ⟨.value (.func 93), #[.tmp 8], #[23]⟩, none, false, [], false⟩,
 ⟨some 10, .fieldAddr 25 (.tmp 1) 4, none, false, [], false⟩,
 ⟨none, .store 23 (.tmp 10) (.tmp 9), none, false, [], false⟩])
 (.seq
 (.reg false [
 ⟨some 11, .load 25 (.tmp 1), none, false, [], false⟩,
 ⟨none, .store 25 (.tmp 2) (.tmp 11), none, false, [], false⟩])
 .ret))))
noncomputable def fi56 : FI := ⟨c56, 12, [.cell 2 25], .plain⟩
noncomputable def c58 : XC :=
 (.seq
 (.reg false [
 ⟨some 1, .box 25 (.tmp 0), none, false, [], false⟩])
 (.seq
 (.seq
 (.reg false [
 ⟨some 2, .assign (.const (.int .i64 0)), none, false, [], false⟩])
 (.block 0
 (.loop
 (.seq
 (.seq
 (.reg false [
 ⟨some 4, .move (.tmp 2), none, false, [], false⟩,
 ⟨some 5, .fieldAddr 25 (.tmp 1) 4, none, false, [], false⟩,
 ⟨some 6, .load 23 (.tmp 5), none, false, [], false⟩,
 ⟨some 7, .call ⟨.builtin .len, #[.tmp 6], #[23]⟩, none, false, [], false⟩,
 ⟨some 8, .binOp .lss 3 (.tmp 4) (.tmp 7) 3, none, false, [], false⟩])
 (.cond (.tmp 8)
 .skip
 (.exit 0)))
 (.seq
 (.block 1
 (.seq
 (.seq
 (.reg false [
 ⟨some 3, .assign (.const (.int .i64 0)), none, false, [], false⟩])
 (.block 2
 (.loop
 (.seq
 (.seq
 (.reg false [
 ⟨some 11, .move (.tmp 3), none, false, [], false⟩,
 ⟨some 12, .fieldAddr 25 (.tmp 1) 4, none, false, [], false⟩,
 ⟨some 13, .load 23 (.tmp 12), none, false, [], false⟩,
 ⟨some 14, .move (.tmp 2), none, false, [], false⟩,
 ⟨some 15, .indexAddr 23 (.tmp 13) (.tmp 14), none, false, [], false⟩,
 ⟨some 16, .fieldAddr 49 (.tmp 15) 0, none, false, [], false⟩,
 ⟨some 17, .load 47 (.tmp 16), none, false, [], false⟩,
 ⟨some 18, .call ⟨.builtin .len, #[.tmp 17], #[47]⟩, none, false, [], false⟩,
 ⟨some 19, .binOp .lss 3 (.tmp 11) (.tmp 18) 3, none, false, [], false⟩])
 (.cond (.tmp 19)
 .skip
 (.exit 2)))
 (.seq
 (.block 3
 (.reg false [
 ⟨some 22, .fieldAddr 25 (.tmp 1) 4, none, false, [], false⟩,
 ⟨some 23, .load 23 (.tmp 22), none, false, [], false⟩,
 ⟨some 24, .move (.tmp 2), none, false, [], false⟩,
 ⟨some 25, .indexAddr 23 (.tmp 23) (.tmp 24), none, false, [], false⟩,
 ⟨some 26, .fieldAddr 49 (.tmp 25) 0, none, false, [], false⟩,
 ⟨some 27, .load 47 (.tmp 26), none, false, [], false⟩,
 ⟨some 28, .move (.tmp 3), none, false, [], false⟩,
 ⟨some 29, .indexAddr 47 (.tmp 27) (.tmp 28), none, false, [], false⟩,
 ⟨some 30, .fieldAddr 46 (.tmp 29) 7, none, false, [], false⟩,
 ⟨some 31, .load 22 (.tmp 30), none, false, [], false⟩,
 ⟨some 32, .call ⟨.value (.func 111), #[.tmp 31], #[22]⟩, none, false, [], false⟩]))
 (.reg false [
 ⟨some 20, .move (.tmp 3), none, false, [], false⟩,
 ⟨some 21, .binOp .add 3 (.tmp 20) (.const (.int .i64 1)) 3, none, false, [], false⟩,
 ⟨some 3, .assign (.tmp 21), none, false, [], false⟩]))))))
 (.reg false [
 ⟨some 33, .fieldAddr 25 (.tmp 1) 4, none, false, [], false⟩,
 ⟨some 34, .load 23 (.tmp 33), none, false, [], false⟩,
 ⟨some 35, .move (.tmp 2), none, false, [], false⟩,
 ⟨some 36, .indexAddr 23 (.tmp 34) (.tmp 35), none, false, [], false⟩,
 ⟨some 37, .fieldAddr 49 (.tmp 36) 0, none, false, [], false⟩,
 ⟨some 38, .load 47 (.tmp 37), none, false, [], false⟩,
 ⟨some 39, .call ⟨.value (.func 112), #[.tmp 38], #[47]⟩, none, false, [], false⟩])))
 (.reg false [
 ⟨some 9, .move (.tmp 2), none, false, [], false⟩,
 ⟨some 10, .binOp .add 3 (.tmp 9) (.const (.int .i64 1)) 3, none, false, [], false⟩,
 ⟨some 2, .assign (.tmp 10), none, false, [], false⟩]))))))
 (.seq
 (.reg false [
 ⟨some 40, .fieldAddr 25 (.tmp 1) 3, none, false, [], false⟩,
 ⟨some 41, .load 22 (.tmp 40), none, false, [], false⟩,
 ⟨some 42, .call ⟨.value (.func 111), #[.tmp 41], #[22]⟩, none, false, [], false⟩])
 (.reg false [
 ⟨some 43, .fieldAddr 25 (.tmp 1) 4, none, false, [], false⟩,
 ⟨some 44, .load 23 (.tmp 43), none, false, [], false⟩,
 ⟨some 45, .call ⟨.value (.func 113), #[.tmp 44], #[23]⟩, none, false, [], false⟩]))))
noncomputable def fi58 : FI := ⟨c58, 46, [], .plain⟩
noncomputable def c60 : XC :=
 (.seq
 (.reg false [
 ⟨some 4, .assign (.const (.int .i64 0)), none, false, [], false⟩])
 (.seq
 (.seq
 (.reg false [
 ⟨some 5, .move (.tmp 1), none, false, [], false⟩,
 ⟨some 6, .binOp .lss 3 (.tmp 5) (.const (.int .i64 1)) 3, none, false, [], false⟩])
 (.cond (.tmp 6)
 (.seq
 (.reg false [
 ⟨some 4, .assign (.const (.int .i64 0)), none, false, [], false⟩])
 .ret)
 .skip))
 (.seq
 (.reg false [
 ⟨some 7, .move (.tmp 0), none, false, [], false⟩,
 ⟨some 8, .move (.tmp 1), none, false, [], false⟩,
 ⟨some 9, .binOp .rem 3 (.tmp 7) (.tmp 8) 3, none, false, [], false⟩,
 ⟨some 0, .assign (.tmp 9), none, false, [], false⟩])
 (.seq
 (.seq
 (.reg false [
 ⟨some 10, .move (.tmp 0), none, false, [], false⟩,
 ⟨some 11, .binOp .lss 3 (.tmp 10) (.const (.int .i64 0)) 3, none, false, [], false⟩])
 (.cond (.tmp 11)
 (.reg false [
 ⟨some 12, .move (.tmp 0), none, false, [], false⟩,
 ⟨some 13, .move (.tmp 1), none, false, [], false⟩,
 ⟨some 14, .binOp .add 3 (.tmp 12) (.tmp 13) 3, none, false, [], false⟩,
 ⟨some 0, .assign (.tmp 14), none, false, [], false⟩])
 .skip))
 (.seq
 (.reg false [
 ⟨some 15, .move (.tmp 0), none, false, [], false⟩,
 ⟨some 4, .assign (.tmp 15), none, false, [], false⟩])
 .ret)))))
noncomputable def fi60 : FI := ⟨c60, 16, [.tmp 4], .plain⟩
noncomputable def c61 : XC :=
 (.seq
 (.reg false [
 ⟨some 4, .assign (.const (.bool false)), none, false, [], false⟩])
 (.seq
 (.seq
 (.reg false [
 ⟨some 6, .move (.tmp 0), none, false, [], false⟩,
 ⟨some 7, .call ⟨.builtin .len, #[.tmp 6], #[22]⟩, none, false, [], false⟩,
 ⟨some 8, .move (.tmp 1), none, false, [], false⟩,
 ⟨some 9, .call ⟨.builtin .len, #[.tmp 8], #[22]⟩, none, false, [], false⟩,
 ⟨some 10, .binOp .neq 3 (.tmp 7) (.tmp 9) 3, none, false, [], false⟩])
 (.cond (.tmp 10)
 (.seq
 (.reg false [
 ⟨some 4, .assign (.const (.bool false)), none, false, [], false⟩])
 .ret)
 .skip))
 (.seq
 (.seq
 (.reg false [
 ⟨some 5, .assign (.const (.int .i64 0)), none, false, [], false⟩])
 (.block 0
 (.loop
 (.seq
 (.seq
 (.reg false [
 ⟨some 11, .move (.tmp 5), none, false, [], false⟩,
 ⟨some 12, .move (.tmp 0), none, false, [], false⟩,
 ⟨some 13, .call ⟨.builtin .len, #[.tmp 12], #[22]⟩, none, false, [], false⟩,
 ⟨some 14, .binOp .lss 3 (.tmp 11) (.tmp 13) 3, none, false, [], false⟩])
 (.cond (.tmp 14)
 .skip
 (.exit 0)))
 (.seq
 (.block 1
 (.seq
 (.reg true [
 ⟨some 17, .move (.tmp 0), none, false, [], false⟩,
 ⟨some 18, .move (.tmp 5), none, false, [], false⟩,
 ⟨some 19, .indexAddr 22 (.tmp 17) (.tmp 18), none, false, [], false⟩,
 ⟨some 20, .load 3 (.tmp 19), none, false, [], false⟩,
 ⟨some 21, .move (.tmp 1), none, false, [], false⟩,
 ⟨some 22, .move (.tmp 5), none, false, [], false⟩,
 ⟨some 23, .indexAddr 22 (.tmp 21) (.tmp 22), none, false, [], false⟩,
 ⟨some 24, .load 3 (.tmp 23), none, false, [], false⟩,
 ⟨some 25, .binOp .eql 3 (.tmp 20) (.tmp 24) 3, none, false, [], false⟩,
 ⟨some 26, .unOp .not 4 (.tmp 25), none, false, [], false⟩])
 (.cond (.tmp 26)
 (.seq
 (.reg false [
 ⟨some 4, .assign (.const (.bool false)), none, false, [], false⟩])
 .ret)
 .skip)))
 (.reg false [
 ⟨some 15, .move (.tmp 5), none, false, [], false⟩,
 ⟨some 16, .binOp .add 3 (.tmp 15) (.const (.int .i64 1)) 3, none, false, [], false⟩,
 ⟨some 5, .assign (.tmp 16), none, false, [], false⟩]))))))
 (.seq
 (.reg false [
 ⟨some 4, .assign (.const (.bool true)), none, false, [], false⟩])
 .ret))))
noncomputable def fi61 : FI := ⟨c61, 27, [.tmp 4], .plain⟩
noncomputable def c63 : XC :=
 (.seq
 (.reg false [
 ⟨some 4, .assign (.const (.bool false)), none, false, [], false⟩])
 (.seq
 (.seq
 (.reg false [
 ⟨some 6, .move (.tmp 0), none, false, [], false⟩,
 ⟨some 7, .call ⟨.builtin .len, #[.tmp 6], #[47]⟩, none, false, [], false⟩,
 ⟨some 8, .move (.tmp 1), none, false, [], false⟩,
 ⟨some 9, .call ⟨.builtin .len, #[.tmp 8], #[47]⟩, none, false, [], false⟩,
 ⟨some 10, .binOp .neq 3 (.tmp 7) (.tmp 9) 3, none, false, [], false⟩])
 (.cond (.tmp 10)
 (.seq
 (.reg false [
 ⟨some 4, .assign (.const (.bool false)), none, false, [], false⟩])
 .ret)
 .skip))
 (.seq
 (.seq
 (.reg false [
 ⟨some 5, .assign (.const (.int .i64 0)), none, false, [], false⟩])
 (.block 0
 (.loop
 (.seq
 (.seq
 (.reg false [
 ⟨some 11, .move (.tmp 5), none, false, [], false⟩,
 ⟨some 12, .move (.tmp 0), none, false, [], false⟩,
 ⟨some 13, .call ⟨.builtin .len, #[.tmp 12], #[47]⟩, none, false, [], false⟩,
 ⟨some 14, .binOp .lss 3 (.tmp 11) (.tmp 13) 3, none, false, [], false⟩])
 (.cond (.tmp 14)
 .skip
 (.exit 0)))
 (.seq
 (.block 1
 (.seq
 (.reg true [
 ⟨some 17, .move (.tmp 0), none, false, [], false⟩,
 ⟨some 18, .move (.tmp 5), none, false, [], false⟩,
 ⟨some 19, .indexAddr 47 (.tmp 17) (.tmp 18), none, false, [], false⟩,
 ⟨some 20, .load 46 (.tmp 19), none, false, [], false⟩,
 ⟨some 21, .move (.tmp 1), none, false, [], false⟩,
 ⟨some 22, .move (.tmp 5), none, false, [], false⟩,
 ⟨some 23, .indexAddr 47 (.tmp 21) (.tmp 22), none, false, [], false⟩,
 ⟨some 24, .load 46 (.tmp 23), none, false, [], false⟩,
 ⟨some 25, .call ⟨.value (.func 114), #[.tmp 20, .tmp 24], #[46, 46]⟩, none, false, [true], false⟩,
 ⟨some 26, .unOp .not 4 (.tmp 25), none, false, [], false⟩])
 (.cond (.tmp 26)
 (.seq
 (.reg false [
 ⟨some 4, .assign (.const (.bool false)), none, false, [], false⟩])
 .ret)
 .skip)))
 (.reg false [
 ⟨some 15, .move (.tmp 5), none, false, [], false⟩,
 ⟨some 16, .binOp .add 3 (.tmp 15) (.const (.int .i64 1)) 3, none, false, [], false⟩,
 ⟨some 5, .assign (.tmp 16), none, false, [], false⟩]))))))
 (.seq
 (.reg false [
 ⟨some 4, .assign (.const (.bool true)), none, false, [], false⟩])
 .ret))))
noncomputable def fi63 : FI := ⟨c63, 27, [.tmp 4], .plain⟩
noncomputable def c64 : XC :=
 (.seq
 (.reg false [
 ⟨some 4, .assign (.const (.bool false)), none, false, [], false⟩])
 (.seq
 (.seq
 (.reg false [
 ⟨some 6, .move (.tmp 0), none, false, [], false⟩,
 ⟨some 7, .call ⟨.builtin .len, #[.tmp 6], #[23]⟩, none, false, [], false⟩,
 ⟨some 8, .move (.tmp 1), none, false, [], false⟩,
 ⟨some 9, .call ⟨.builtin .len, #[.tmp 8], #[23]⟩, none, false, [], false⟩,
 ⟨some 10, .binOp .neq 3 (.tmp 7) (.tmp 9) 3, none, false, [], false⟩])
 (.cond (.tmp 10)
 (.seq
 (.reg false [
 ⟨some 4, .assign (.const (.bool false)), none, false, [], false⟩])
 .ret)
 .skip))
 (.seq
 (.seq
 (.reg false [
 ⟨some 5, .assign (.const (.int .i64 0)), none, false, [], false⟩])
 (.block 0
 (.loop
 (.seq
 (.seq
 (.reg false [
 ⟨some 11, .move (.tmp 5), none, false, [], false⟩,
 ⟨some 12, .move (.tmp 0), none, false, [], false⟩,
 ⟨some 13, .call ⟨.builtin .len, #[.tmp 12], #[23]⟩, none, false, [], false⟩,
 ⟨some 14, .binOp .lss 3 (.tmp 11) (.tmp 13) 3, none, false, [], false⟩])
 (.cond (.tmp 14)
 .skip
 (.exit 0)))
 (.seq
 (.block 1
 (.seq
 (.reg true [
 ⟨some 17, .move (.tmp 0), none, false, [], false⟩,
 ⟨some 18, .move (.tmp 5), none, false, [], false⟩,
 ⟨some 19, .indexAddr 23 (.tmp 17) (.tmp 18), none, false, [], false⟩,
 ⟨some 20, .fieldAddr 49 (.tmp 19) 1, none, false, [], false⟩,
 ⟨some 21, .load 29 (.tmp 20), none, false, [], false⟩,
 ⟨some 22, .move (.tmp 1), none, false, [], false⟩,
 ⟨some 23, .move (.tmp 5), none, false, [], false⟩,
 ⟨some 24, .indexAddr 23 (.tmp 22) (.tmp 23), none, false, [], false⟩,
 ⟨some 25, .fieldAddr 49 (.tmp 24) 1, none, false, [], false⟩,
 ⟨some 26, .load 29 (.tmp 25), none, false, [], false⟩,
 ⟨some 27, .binOp .eql 29 (.tmp 21) (.tmp 26) 29, none, false, [], false⟩,
 ⟨some 28, .move (.tmp 27), none, false, [], false⟩,
 ⟨some 29, .move (.tmp 0), some (some 28, true), false, [], false⟩,
 ⟨some 30, .move (.tmp 5), some (some 28, true), false, [], false⟩,
 ⟨some 31, .indexAddr 23 (.tmp 29) (.tmp 30), some (some 28, true), false, [], false⟩,
 ⟨some 32, .fieldAddr 49 (.tmp 31) 0, some (some 28, true), false, [], false⟩,
 ⟨some 33, .load 47 (.tmp 32), some (some 28, true), false, [], false⟩,
 ⟨some 34, .move (.tmp 1), some (some 28, true), false, [], false⟩,
 ⟨some 35, .move (.tmp 5), some (some 28, true), false, [], false⟩,
 ⟨some 36, .indexAddr 23 (.tmp 34) (.tmp 35), some (some 28, true), false, [], false⟩,
 ⟨some 37, .fieldAddr 49 (.tmp 36) 0, some (some 28, true), false, [], false⟩,
 ⟨some 38, .load 47 (.tmp 37), some (some 28, true), false, [], false⟩,
 ⟨some 39, .call ⟨.value (.func 63), #[.tmp 33, .tmp 38], #[47, 47]⟩, some (some 28, true), false, [true, true], false⟩,
 ⟨some 40, .pick (.tmp 28) (.tmp 39) (.const (.bool false)), none, false, [], false⟩,
 ⟨some 41, .unOp .not 4 (.tmp 40), none, false, [], false⟩])
 (.cond (.tmp 41)
 (.seq
 (.reg false [
 ⟨some 4, .assign (.const (.bool false)), none, false, [], false⟩])
 .ret)
 .skip)))
 (.reg false [
 ⟨some 15, .move (.tmp 5), none, false, [], false⟩,
 ⟨some 16, .binOp .add 3 (.tmp 15) (.const (.int .i64 1)) 3, none, false, [], false⟩,
 ⟨some 5, .assign (.tmp 16), none, false, [], false⟩]))))))
 (.seq
 (.reg false [
 ⟨some 4, .assign (.const (.bool true)), none, false, [], false⟩])
 .ret))))
noncomputable def fi64 : FI := ⟨c64, 42, [.tmp 4], .plain⟩
noncomputable def c67 : XC :=
 (.seq
 (.reg false [
 ⟨some 1, .box 36 (.tmp 0), none, false, [], false⟩,
 ⟨some 2, .alloc 36, none, false, [], false⟩])
 (.seq
 (.reg true [
 ⟨some 3, .fieldAddr 36 (.tmp 1) 0, none, false, [], false⟩,
 ⟨some 4, .load 34 (.tmp 3), none, false, [], false⟩,
 ⟨some 5, .call ⟨.value (.func 118), #[.tmp 4], #[34]⟩, none, true, [false, false, true, true, true], false⟩,
 ⟨some 6, .fieldAddr 36 (.tmp 1) 1, none, false, [], false⟩,
 ⟨some 7, .load 33 (.tmp 6), none, false, [], true⟩,
 ⟨some 8, .call ⟨.value (.func 119), #[.tmp 7], #[33]⟩, none, false, [true, true], false⟩,
 ⟨some 9, .build 36 #[(0, .tmp 5), (1, .tmp 8)], none, false, [], false⟩,
 ⟨none, .store 36 (.tmp 2) (.tmp 9), none, false, [], false⟩])
 .ret))
noncomputable def fi67 : FI := ⟨c67, 10, [.cell 2 36], .plain⟩
noncomputable def c80 : XC :=
 (.seq
 (.reg false [
 ⟨some 1, .box 46 (.tmp 0), none, false, [], false⟩,
 ⟨some 2, .assign (.const (.int .i64 0)), none, false, [], false⟩])
 (.seq
 (.seq
 (.reg false [
 ⟨some 3, .fieldAddr 46 (.tmp 1) 0, none, false, [], false⟩,
 ⟨some 4, .load 3 (.tmp 3), none, false, [], false⟩])
 (.block 0
 (.seq
 (.seq
 (.reg false [
 ⟨some 6, .binOp .eql 3 (.tmp 4) (.const (.int .i64 1)) 3, none, false, [], false⟩,
 ⟨some 5, .assign (.tmp 6), none, false, [], false⟩])
 (.cond (.tmp 5)
 .skip
 (.seq
 (.reg false [
 ⟨some 7, .binOp .eql 3 (.tmp 4) (.const (.int .i64 2)) 3, none, false, [], false⟩,
 ⟨some 5, .assign (.tmp 7), none, false, [], false⟩])
 (.cond (.tmp 5)
 .skip
 (.seq
 (.reg false [
 ⟨some 8, .binOp .eql 3 (.tmp 4) (.const (.int .i64 3)) 3, none, false, [], false⟩,
 ⟨some 5, .assign (.tmp 8), none, false, [], false⟩])
 (.cond (.tmp 5)
 .skip
 (.seq
 (.reg false [
 ⟨some 9, .binOp .eql 3 (.tmp 4) (.const (.int .i64 4)) 3, none, false, [], false⟩,
 ⟨some 5, .assign (.tmp 9), none, false, [], false⟩])
 (.cond (.tmp 5)
 .skip
 (.seq
 (.reg false [
 ⟨some 10, .binOp .eql 3 (.tmp 4) (.const (.int .i64 5)) 3, none, false, [], false⟩,
 ⟨some 5, .assign (.tmp 10), none, false, [], false⟩])
 (.cond (.tmp 5)
 .skip
 (.seq
 (.reg false [
 ⟨some 11, .binOp .eql 3 (.tmp 4) (.const (.int .i64 7)) 3, none, false, [], false⟩,
 ⟨some 5, .assign (.tmp 11), none, false, [], false⟩])
 (.cond (.tmp 5)
 .skip
 (.reg false [
 ⟨some 12, .binOp .eql 3 (.tmp 4) (.const (.int .i64 10)) 3, none, false, [], false⟩,
 ⟨some 5, .assign (.tmp 12), none, false, [], false⟩])))))))))))))
 (.cond (.tmp 5)
 (.seq
 (.reg false [
 ⟨some 13, .fieldAddr 46 (.tmp 1) 2, none, false, [], false⟩,
 ⟨some 14, .load 3 (.tmp 13), none, false, [], false⟩,
 ⟨some 2, .assign (.tmp 14), none, false, [], false⟩])
 .ret)
 (.seq
 (.reg false [
 ⟨some 16, .binOp .eql 3 (.tmp 4) (.const (.int .i64 9)) 3, none, false, [], false⟩,
 ⟨some 15, .assign (.tmp 16), none, false, [], false⟩])
 (.cond (.tmp 15)
 (.seq
 (.reg false [
 ⟨some 17, .fieldAddr 46 (.tmp 1) 2, none, false, [], false⟩,
 ⟨some 18, .load 3 (.tmp 17), none, false, [], false⟩,
 ⟨some 19, .call ⟨.builtin .max, #[.tmp 18, .const (.int .i64 (-1))], #[3, 3]⟩, none, false, [], false⟩,
 ⟨some 2, .assign (.tmp 19), none, false, [], false⟩])
 .ret)
 .skip))))))
 (.seq
 (.reg false [
 ⟨some 2, .assign (.const (.int .i64 (-1))), none, false, [], false⟩])
 .ret)))
noncomputable def fi80 : FI := ⟨c80, 20, [.tmp 2], .plain⟩
noncomputable def c86 : XC :=
 (.seq
 (.reg false [
 ⟨some 2, .assign (.const (.bool false)), none, false, [], false⟩])
 (.seq
 (.reg false [
 ⟨some 3, .move (.tmp 0), none, false, [], false⟩,
 ⟨some 4, .binOp .eql 3 (.tmp 3) (.const (.int .i64 1)) 3, none, false, [], false⟩,
 ⟨some 5, .move (.tmp 4), none, false, [], false⟩,
 ⟨some 6, .move (.tmp 0), some (some 5, false), false, [], false⟩,
 ⟨some 7, .binOp .eql 3 (.tmp 6) (.const (.int .i64 2)) 3, some (some 5, false), false, [], false⟩,
 ⟨some 8, .pick (.tmp 5) (.const (.bool true)) (.tmp 7), none, false, [], false⟩,
 ⟨some 2, .assign (.tmp 8), none, false, [], false⟩])
 .ret))
noncomputable def fi86 : FI := ⟨c86, 9, [.tmp 2], .plain⟩
noncomputable def c87 : XC :=
 (.seq
 (.reg false [
 ⟨some 1, .box 107 (.tmp 0), none, false, [], false⟩,
 ⟨some 2, .assign (.const (.int .i64 0)), none, false, [], false⟩])
 (.seq
 (.reg false [
 ⟨some 10, .fieldAddr 107 (.tmp 1) 1, none, false, [], false⟩,
 ⟨some 11, .load 25 (.tmp 10), none, false, [], false⟩,
 ⟨some 3, .alloc 25, none, false, [], false⟩,
 ⟨none, .store 25 (.tmp 3) (.tmp 11), none, false, [], false⟩])
 (.seq
 (.block 0
 (.seq
 (.reg false [
 ⟨some 13, .fieldAddr 25 (.tmp 3) 4, none, false, [], false⟩,
 ⟨some 14, .load 23 (.tmp 13), none, false, [], false⟩,
 ⟨some 15, .call ⟨.builtin .len, #[.tmp 14], #[23]⟩, none, false, [], false⟩,
 ⟨some 16, .binOp .lss 3 (.tmp 15) (.const (.int .i64 1)) 3, none, false, [], false⟩,
 ⟨some 17, .move (.tmp 16), none, false, [], false⟩,
 ⟨some 18, .fieldAddr 25 (.tmp 3) 4, some (some 17, false), false, [], false⟩,
 ⟨some 19, .load 23 (.tmp 18), some (some 17, false), false, [], false⟩,
 ⟨some 20, .call ⟨.builtin .len, #[.tmp 19], #[23]⟩, some (some 17, false), false, [], false⟩,
 ⟨some 21, .binOp .gtr 3 (.tmp 20) (.const (.int .i64 400)) 3, some (some 17, false), false, [], false⟩,
 ⟨some 22, .pick (.tmp 17) (.const (.bool true)) (.tmp 21), none, false, [], false⟩,
 ⟨some 23, .move (.tmp 22), none, false, [], false⟩,
 ⟨some 24, .fieldAddr 25 (.tmp 3) 3, some (some 23, false), false, [], false⟩,
 ⟨some 25, .load 22 (.tmp 24), some (some 23, false), false, [], false⟩,
 ⟨some 26, .call ⟨.builtin .len, #[.tmp 25], #[22]⟩, some (some 23, false), false, [], false⟩,
 ⟨some 27, .binOp .gtr 3 (.tmp 26) (.const (.int .i64 4096)) 3, some (some 23, false), false, [], false⟩,
 ⟨some 28, .pick (.tmp 23) (.const (.bool true)) (.tmp 27), none, false, [], false⟩,
 ⟨some 12, .assign (.tmp 28), none, false, [], false⟩])
 (.cond (.tmp 12)
 (.seq
 (.reg false [
 ⟨some 2, .assign (.const (.int .i64 9)), none, false, [], false⟩])
 .ret)
 (.seq
 (.reg false [
 ⟨some 30, .fieldAddr 25 (.tmp 3) 2, none, false, [], false⟩,
 ⟨some 31, .load 3 (.tmp 30), none, false, [], false⟩,
 ⟨some 32, .binOp .lss 3 (.tmp 31) (.const (.int .i64 0)) 3, none, false, [], false⟩,
 ⟨some 33, .move (.tmp 32), none, false, [], false⟩,
 ⟨some 34, .fieldAddr 25 (.tmp 3) 2, some (some 33, false), false, [], false⟩,
 ⟨some 35, .load 3 (.tmp 34), some (some 33, false), false, [], false⟩,
 ⟨some 36, .fieldAddr 25 (.tmp 3) 3, some (some 33, false), false, [], false⟩,
 ⟨some 37, .load 22 (.tmp 36), some (some 33, false), false, [], false⟩,
 ⟨some 38, .call ⟨.builtin .len, #[.tmp 37], #[22]⟩, some (some 33, false), false, [], false⟩,
 ⟨some 39, .binOp .gtr 3 (.tmp 35) (.tmp 38) 3, some (some 33, false), false, [], false⟩,
 ⟨some 40, .pick (.tmp 33) (.const (.bool true)) (.tmp 39), none, false, [], false⟩,
 ⟨some 29, .assign (.tmp 40), none, false, [], false⟩])
 (.cond (.tmp 29)
 (.seq
 (.reg false [
 ⟨some 2, .assign (.const (.int .i64 11)), none, false, [], false⟩])
 .ret)
 (.seq
 (.reg false [
 ⟨some 42, .fieldAddr 25 (.tmp 3) 1, none, false, [], false⟩,
 ⟨some 43, .load 3 (.tmp 42), none, false, [], false⟩,
 ⟨some 44, .binOp .lss 3 (.tmp 43) (.const (.int .i64 0)) 3, none, false, [], false⟩,
 ⟨some 45, .move (.tmp 44), none, false, [], false⟩,
 ⟨some 46, .fieldAddr 25 (.tmp 3) 1, some (some 45, false), false, [], false⟩,
 ⟨some 47, .load 3 (.tmp 46), some (some 45, false), false, [], false⟩,
 ⟨some 48, .binOp .gtr 3 (.tmp 47) (.const (.int .i64 2)) 3, some (some 45, false), false, [], false⟩,
 ⟨some 49, .pick (.tmp 45) (.const (.bool true)) (.tmp 48), none, false, [], false⟩,
 ⟨some 50, .move (.tmp 49), none, false, [], false⟩,
 ⟨some 51, .fieldAddr 25 (.tmp 3) 3, some (some 50, false), false, [], false⟩,
 ⟨some 52, .load 22 (.tmp 51), some (some 50, false), false, [], false⟩,
 ⟨some 53, .call ⟨.value (.func 136), #[.tmp 52, .func 137], #[22, 99]⟩, some (some 50, false), false, [], false⟩,
 ⟨some 54, .pick (.tmp 50) (.const (.bool true)) (.tmp 53), none, false, [], false⟩,
 ⟨some 41, .assign (.tmp 54), none, false, [], false⟩])
 (.cond (.tmp 41)
 (.seq
 (.reg false [
 ⟨some 2, .assign (.const (.int .i64 6)), none, false, [], false⟩])
 .ret)
 .skip)))))))
 (.seq
 (.seq
 (.reg false [
 ⟨some 55, .fieldAddr 25 (.tmp 3) 4, none, false, [], false⟩,
 ⟨some 56, .load 23 (.tmp 55), none, false, [], false⟩,
 ⟨some 57, .call ⟨.builtin .len, #[.tmp 56], #[23]⟩, none, false, [], false⟩,
 ⟨some 58, .move (.const (.int .i64 0)), none, false, [], false⟩])
 (.block 1
 (.loop
 (.seq
 (.reg false [
 ⟨some 59, .binOp .lss 3 (.tmp 58) (.tmp 57) 3, none, false, [], false⟩])
 (.seq
 (.cond (.tmp 59)
 .skip
 (.exit 1))
 (.seq
 (.block 2
 (.seq
 (.reg false [
 ⟨some 60, .indexAddr 23 (.tmp 56) (.tmp 58), none, false, [], false⟩,
 ⟨some 61, .load 49 (.tmp 60), none, false, [], false⟩,
 ⟨some 5, .alloc 49, none, false, [], false⟩,
 ⟨none, .store 49 (.tmp 5) (.tmp 61), none, false, [], false⟩])
 (.seq
 (.seq
 (.reg false [
 ⟨some 62, .fieldAddr 49 (.tmp 5) 0, none, false, [], false⟩,
 ⟨some 63, .load 47 (.tmp 62), none, false, [], false⟩,
 ⟨some 64, .call ⟨.builtin .len, #[.tmp 63], #[47]⟩, none, false, [], false⟩,
 ⟨some 65, .move (.const (.int .i64 0)), none, false, [], false⟩])
 (.block 3
 (.loop
 (.seq
 (.reg false [
 ⟨some 66, .binOp .lss 3 (.tmp 65) (.tmp 64) 3, none, false, [], false⟩])
 (.seq
 (.cond (.tmp 66)
 .skip
 (.exit 3))
 (.seq
 (.block 4
 (.seq
 (.reg false [
 ⟨some 67, .indexAddr 47 (.tmp 63) (.tmp 65), none, false, [], false⟩,
 ⟨some 68, .load 46 (.tmp 67), none, false, [], false⟩,
 ⟨some 7, .alloc 46, none, false, [], false⟩,
 ⟨none, .store 46 (.tmp 7) (.tmp 68), none, false, [], false⟩])
 (.seq
 (.reg false [
 ⟨some 69, .load 107 (.tmp 1), none, false, [], false⟩,
 ⟨some 70, .load 46 (.tmp 7), none, false, [], false⟩,
 ⟨some 71, .call ⟨.value (.func 138), #[.tmp 69, .tmp 70], #[107, 46]⟩, none, false, [], false⟩,
 ⟨some 8, .assign (.tmp 71), none, false, [], false⟩])
 (.seq
 (.reg false [
 ⟨some 72, .move (.tmp 8), none, false, [], false⟩,
 ⟨some 73, .binOp .neq 62 (.tmp 72) (.const (.int .i64 0)) 62, none, false, [], false⟩])
 (.cond (.tmp 73)
 (.seq
 (.reg false [
 ⟨some 74, .move (.tmp 8), none, false, [], false⟩,
 ⟨some 2, .assign (.tmp 74), none, false, [], false⟩])
 .ret)
 .skip)))))
 (.reg false [
 ⟨some 75, .binOp .add 3 (.tmp 65) (.const (.int .i64 1)) 3, none, false, [], false⟩,
 ⟨some 65, .move (.tmp 75), none, false, [], false⟩])))))))
 (.seq
 (.reg false [
 ⟨some 76, .load 107 (.tmp 1), none, false, [], false⟩,
 ⟨some 77, .fieldAddr 49 (.tmp 5) 1, none, false, [], false⟩,
 ⟨some 78, .load 29 (.tmp 77), none, false, [], false⟩,
 ⟨some 79, .call ⟨.value (.func 139), #[.tmp 76, .tmp 78], #[107, 29]⟩, none, false, [], false⟩,
 ⟨some 9, .assign (.tmp 79), none, false, [], false⟩])
 (.seq
 (.reg false [
 ⟨some 80, .move (.tmp 9), none, false, [], false⟩,
 ⟨some 81, .binOp .neq 62 (.tmp 80) (.const (.int .i64 0)) 62, none, false, [], false⟩])
 (.cond (.tmp 81)
 (.seq
 (.reg false [
 ⟨some 82, .move (.tmp 9), none, false, [], false⟩,
 ⟨some 2, .assign (.tmp 82), none, false, [], false⟩])
 .ret)
 .skip))))))
 (.reg false [
 ⟨some 83, .binOp .add 3 (.tmp 58) (.const (.int .i64 1)) 3, none, false, [], false⟩,
 ⟨some 58, .move (.tmp 83), none, false, [], false⟩])))))))
 (.seq
 (.reg false [
 ⟨some 2, .assign (.const (.int .i64 0)), none, false, [], false⟩])
 .ret)))))
noncomputable def fi87 : FI := ⟨c87, 84, [.tmp 2], .plain⟩
noncomputable def c88 : XC :=
 (.seq
 (.reg false [
 ⟨some 1, .box 36 (.tmp 0), none, false, [], false⟩,
 ⟨some 2, .assign (.const (.int .i64 0)), none, false, [], false⟩])
 (.seq
 (.reg false [
 ⟨some 3, .fieldAddr 36 (.tmp 1) 1, none, false, [], false⟩,
 ⟨some 4, .load 33 (.tmp 3), none, false, [], false⟩,
 ⟨some 5, .call ⟨.value (.func 116), #[.tmp 4, .func 140], #[33, 135]⟩, none, false, [], false⟩,
 ⟨some 2, .assign (.tmp 5), none, false, [], false⟩])
 .ret))
noncomputable def fi88 : FI := ⟨c88, 6, [.tmp 2], .plain⟩
noncomputable def c89 : XC :=
 (.seq
 (.reg false [
 ⟨some 1, .box 36 (.tmp 0), none, false, [], false⟩,
 ⟨some 2, .assign (.const (.bool false)), none, false, [], false⟩])
 (.seq
 (.reg false [
 ⟨some 3, .assign (.const (.int .i64 0)), none, false, [], false⟩])
 (.seq
 (.seq
 (.reg false [
 ⟨some 4, .assign (.const (.int .i64 0)), none, false, [], false⟩])
 (.block 0
 (.loop
 (.seq
 (.seq
 (.reg false [
 ⟨some 7, .move (.tmp 4), none, false, [], false⟩,
 ⟨some 8, .fieldAddr 36 (.tmp 1) 1, none, false, [], false⟩,
 ⟨some 9, .load 33 (.tmp 8), none, false, [], false⟩,
 ⟨some 10, .call ⟨.builtin .len, #[.tmp 9], #[33]⟩, none, false, [], false⟩,
 ⟨some 11, .binOp .lss 3 (.tmp 7) (.tmp 10) 3, none, false, [], false⟩])
 (.cond (.tmp 11)
 .skip
 (.exit 0)))
 (.seq
 (.block 1
 (.seq
 (.reg true [
 ⟨some 14, .move (.tmp 3), none, false, [], false⟩,
 ⟨some 15, .fieldAddr 36 (.tmp 1) 1, none, false, [], false⟩,
 ⟨some 16, .load 33 (.tmp 15), none, false, [], false⟩,
 ⟨some 17, .move (.tmp 4), none, false, [], false⟩,
 ⟨some 18, .indexAddr 33 (.tmp 16) (.tmp 17), none, false, [], false⟩,
 ⟨some 19, .fieldAddr 25 (.tmp 18) 4, none, false, [], false⟩,
 ⟨some 20, .load 23 (.tmp 19), none, false, [], false⟩,
 ⟨some 21, .call ⟨.builtin .len, #[.tmp 20], #[23]⟩, none, false, [], false⟩,
 ⟨some 22, .binOp .add 3 (.tmp 14) (.tmp 21) 3, none, false, [], false⟩,
 ⟨some 23, .fieldAddr 36 (.tmp 1) 1, none, false, [], false⟩,
 ⟨some 24, .load 33 (.tmp 23), none, false, [], false⟩,
 ⟨some 25, .move (.tmp 4), none, false, [], false⟩,
 ⟨some 26, .indexAddr 33 (.tmp 24) (.tmp 25), none, false, [], false⟩,
 ⟨some 27, .fieldAddr 25 (.tmp 26) 3, none, false, [], false⟩,
 ⟨some 28, .load 22 (.tmp 27), none, false, [], false⟩,
 ⟨some 29, .call ⟨.builtin .len, #[.tmp 28], #[22]⟩, none, false, [], false⟩,
 ⟨some 30, .binOp .add 3 (.tmp 22) (.tmp 29) 3, none, false, [], false⟩,
 ⟨some 3, .assign (.tmp 30), none, false, [], false⟩])
 (.seq
 (.seq
 (.reg false [
 ⟨some 5, .assign (.const (.int .i64 0)), none, false, [], false⟩])
 (.block 2
 (.loop
 (.seq
 (.seq
 (.reg false [
 ⟨some 31, .move (.tmp 5), none, false, [], false⟩,
 ⟨some 32, .fieldAddr 36 (.tmp 1) 1, none, false, [], false⟩,
 ⟨some 33, .load 33 (.tmp 32), none, false, [], false⟩,
 ⟨some 34, .move (.tmp 4), none, false, [], false⟩,
 ⟨some 35, .indexAddr 33 (.tmp 33) (.tmp 34), none, false, [], false⟩,
 ⟨some 36, .fieldAddr 25 (.tmp 35) 4, none, false, [], false⟩,
 ⟨some 37, .load 23 (.tmp 36), none, false, [], false⟩,
 ⟨some 38, .call ⟨.builtin .len, #[.tmp 37], #[23]⟩, none, false, [], false⟩,
 ⟨some 39, .binOp .lss 3 (.tmp 31) (.tmp 38) 3, none, false, [], false⟩])
 (.cond (.tmp 39)
 .skip
 (.exit 2)))
 (.seq
 (.block 3
 (.reg false [
 ⟨some 42, .move (.tmp 3), none, false, [], false⟩,
 ⟨some 43, .fieldAddr 36 (.tmp 1) 1, none, false, [], false⟩,
 ⟨some 44, .load 33 (.tmp 43), none, false, [], false⟩,
 ⟨some 45, .move (.tmp 4), none, false, [], false⟩,
 ⟨some 46, .indexAddr 33 (.tmp 44) (.tmp 45), none, false, [], false⟩,
 ⟨some 47, .fieldAddr 25 (.tmp 46) 4, none, false, [], false⟩,
 ⟨some 48, .load 23 (.tmp 47), none, false, [], false⟩,
 ⟨some 49, .move (.tmp 5), none, false, [], false⟩,
 ⟨some 50, .indexAddr 23 (.tmp 48) (.tmp 49), none, false, [], false⟩,
 ⟨some 51, .fieldAddr 49 (.tmp 50) 0, none, false, [], false⟩,
 ⟨some 52, .load 47 (.tmp 51), none, false, [], false⟩,
 ⟨some 53, .call ⟨.builtin .len, #[.tmp 52], #[47]⟩, none, false, [], false⟩,
 ⟨some 54, .binOp .add 3 (.tmp 42) (.tmp 53) 3, none, false, [], false⟩,
 ⟨some 3, .assign (.tmp 54), none, false, [], false⟩]))
 (.reg false [
 ⟨some 40, .move (.tmp 5), none, false, [], false⟩,
 ⟨some 41, .binOp .add 3 (.tmp 40) (.const (.int .i64 1)) 3, none, false, [], false⟩,
 ⟨some 5, .assign (.tmp 41), none, false, [], false⟩]))))))
 (.seq
 (.reg false [
 ⟨some 55, .fieldAddr 36 (.tmp 1) 1, none, false, [], false⟩,
 ⟨some 56, .load 33 (.tmp 55), none, false, [], false⟩,
 ⟨some 57, .move (.tmp 4), none, false, [], false⟩,
 ⟨some 58, .indexAddr 33 (.tmp 56) (.tmp 57), none, false, [], false⟩,
 ⟨some 59, .fieldAddr 25 (.tmp 58) 4, none, false, [], false⟩,
 ⟨some 60, .load 23 (.tmp 59), none, false, [], false⟩,
 ⟨some 61, .call ⟨.builtin .len, #[.tmp 60], #[23]⟩, none, false, [], false⟩,
 ⟨some 62, .binOp .gtr 3 (.tmp 61) (.const (.int .i64 60)) 3, none, false, [], false⟩,
 ⟨some 63, .move (.tmp 62), none, false, [], false⟩,
 ⟨some 64, .move (.tmp 3), some (some 63, false), false, [], false⟩,
 ⟨some 65, .binOp .gtr 3 (.tmp 64) (.const (.int .i64 3000)) 3, some (some 63, false), false, [], false⟩,
 ⟨some 66, .pick (.tmp 63) (.const (.bool true)) (.tmp 65), none, false, [], false⟩])
 (.cond (.tmp 66)
 (.seq
 (.reg false [
 ⟨some 2, .assign (.const (.bool true)), none, false, [], false⟩])
 .ret)
 .skip)))))
 (.reg false [
 ⟨some 12, .move (.tmp 4), none, false, [], false⟩,
 ⟨some 13, .binOp .add 3 (.tmp 12) (.const (.int .i64 1)) 3, none, false, [], false⟩,
 ⟨some 4, .assign (.tmp 13), none, false, [], false⟩]))))))
 (.seq
 (.seq
 (.reg false [
 ⟨some 6, .assign (.const (.int .i64 0)), none, false, [], false⟩])
 (.block 4
 (.loop
 (.seq
 (.seq
 (.reg false [
 ⟨some 67, .move (.tmp 6), none, false, [], false⟩,
 ⟨some 68, .fieldAddr 36 (.tmp 1) 0, none, false, [], false⟩,
 ⟨some 69, .load 34 (.tmp 68), none, false, [], false⟩,
 ⟨some 70, .call ⟨.builtin .len, #[.tmp 69], #[34]⟩, none, false, [], false⟩,
 ⟨some 71, .binOp .lss 3 (.tmp 67) (.tmp 70) 3, none, false, [], false⟩,
 ⟨some 72, .move (.tmp 71), none, false, [], false⟩,
 ⟨some 73, .move (.tmp 6), some (some 72, true), false, [], false⟩,
 ⟨some 74, .binOp .leq 3 (.tmp 73) (.const (.int .i64 100)) 3, some (some 72, true), false, [], false⟩,
 ⟨some 75, .pick (.tmp 72) (.tmp 74) (.const (.bool false)), none, false, [], false⟩])
 (.cond (.tmp 75)
 .skip
 (.exit 4)))
 (.seq
 (.block 5
 (.seq
 (.reg false [
 ⟨some 78, .fieldAddr 36 (.tmp 1) 0, none, false, [], false⟩,
 ⟨some 79, .load 34 (.tmp 78), none, false, [], false⟩,
 ⟨some 80, .move (.tmp 6), none, false, [], false⟩,
 ⟨some 81, .indexAddr 34 (.tmp 79) (.tmp 80), none, false, [], false⟩,
 ⟨some 82, .fieldAddr 105 (.tmp 81) 2, none, false, [], false⟩,
 ⟨some 83, .load 3 (.tmp 82), none, false, [], false⟩,
 ⟨some 84, .binOp .gtr 3 (.tmp 83) (.const (.int .i64 1024)) 3, none, false, [], false⟩])
 (.cond (.tmp 84)
 (.seq
 (.reg false [
 ⟨some 2, .assign (.const (.bool true)), none, false, [], false⟩])
 .ret)
 .skip)))
 (.reg false [
 ⟨some 76, .move (.tmp 6), none, false, [], false⟩,
 ⟨some 77, .binOp .add 3 (.tmp 76) (.const (.int .i64 1)) 3, none, false, [], false⟩,
 ⟨some 6, .assign (.tmp 77), none, false, [], false⟩]))))))
 (.seq
 (.reg false [
 ⟨some 85, .fieldAddr 36 (.tmp 1) 1, none, false, [], false⟩,
 ⟨some 86, .load 33 (.tmp 85), none, false, [], false⟩,
 ⟨some 87, .call ⟨.builtin .len, #[.tmp 86], #[33]⟩, none, false, [], false⟩,
 ⟨some 88, .binOp .gtr 3 (.tmp 87) (.const (.int .i64 20)) 3, none, false, [], false⟩,
 ⟨some 89, .move (.tmp 88), none, false, [], false⟩,
 ⟨some 90, .fieldAddr 36 (.tmp 1) 0, some (some 89, false), false, [], false⟩,
 ⟨some 91, .load 34 (.tmp 90), some (some 89, false), false, [], false⟩,
 ⟨some 92, .call ⟨.builtin .len, #[.tmp 91], #[34]⟩, some (some 89, false), false, [], false⟩,
 ⟨some 93, .binOp .gtr 3 (.tmp 92) (.const (.int .i64 100)) 3, some (some 89, false), false, [], false⟩,
 ⟨some 94, .pick (.tmp 89) (.const (.bool true)) (.tmp 93), none, false, [], false⟩,
 ⟨some 95, .move (.tmp 94), none, false, [], false⟩,
 ⟨some 96, .load 36 (.tmp 1), some (some 95, false), false, [], false⟩,
 ⟨some 97, .call ⟨.value (.func 36), #[.tmp 96], #[36]⟩, some (some 95, false), false, [], false⟩,
 ⟨some 98, .binOp .neq 62 (.tmp 97) (.const (.int .i64 0)) 62, some (some 95, false), false, [], false⟩,
 ⟨some 99, .pick (.tmp 95) (.const (.bool true)) (.tmp 98), none, false, [], false⟩,
 ⟨some 2, .assign (.tmp 99), none, false, [], false⟩])
 .ret)))))
noncomputable def fi89 : FI := ⟨c89, 100, [.tmp 2], .plain⟩
noncomputable def c90 : XC :=
 (.seq
 (.reg false [
 ⟨some 1, .box 25 (.tmp 0), none, false, [], false⟩,
 ⟨some 2, .alloc 25, none, false, [], false⟩])
 (.seq
 (.reg false [
 ⟨some 6, .fieldAddr 25 (.tmp 1) 3, none, false, [], false⟩,
 ⟨some 7, .load 22 (.tmp 6), none, false, [], false⟩,
 ⟨some 8, .call ⟨.value (.func 51), #[.tmp 7], #[22]⟩, none, false, [], false⟩,
 ⟨some 9, .fieldAddr 25 (.tmp 1) 3, none, false, [], false⟩,
 ⟨none, .store 22 (.tmp 9) (.tmp 8), none, false, [], false⟩])
 (.block 0
 (.loop
 (.block 1
 (.seq
 (.reg false [
 ⟨some 10, .fieldAddr 25 (.tmp 1) 4, none, false, [], false⟩,
 ⟨some 11, .load 23 (.tmp 10), none, false, [], false⟩,
 ⟨some 12, .call ⟨.value (.func 141), #[.tmp 11], #[23]⟩, none, false, [], false⟩,
 ⟨some 3, .assign (.tmp 12), none, false, [], false⟩])
 (.seq
 (.reg false [
 ⟨some 13, .move (.tmp 3), none, false, [], false⟩,
 ⟨some 14, .call ⟨.value (.func 142), #[.tmp 13], #[154]⟩, none, false, [], false⟩])
 (.seq
 (.reg false [
 ⟨some 15, .move (.tmp 3), none, false, [], false⟩,
 ⟨some 16, .call ⟨.value (.func 143), #[.tmp 15], #[154]⟩, none, false, [], false⟩])
 (.seq
 (.reg false [
 ⟨some 17, .move (.tmp 3), none, false, [], false⟩,
 ⟨some 18, .call ⟨.value (.func 144), #[.tmp 17], #[154]⟩, none, false, [], false⟩,
 ⟨some 4, .assign (.tmp 18), none, false, [], false⟩])
 (.seq
 (.reg false [
 ⟨some 19, .move (.tmp 4), none, false, [], false⟩,
 ⟨some 20, .fieldAddr 25 (.tmp 1) 4, none, false, [], false⟩,
 ⟨some 21, .load 23 (.tmp 20), none, false, [], false⟩,
 ⟨some 22, .call ⟨.value (.func 145), #[.tmp 19, .tmp 21], #[23, 23]⟩, none, false, [], false⟩,
 ⟨some 5, .assign (.tmp 22), none, false, [], false⟩])
 (.seq
 (.reg false [
 ⟨some 23, .move (.tmp 4), none, false, [], false⟩,
 ⟨some 24, .fieldAddr 25 (.tmp 1) 4, none, false, [], false⟩,
 ⟨none, .store 23 (.tmp 24) (.tmp 23), none, false, [], false⟩])
 (.seq
 (.reg false [
 ⟨some 25, .move (.tmp 5), none, false, [], false⟩])
 (.cond (.tmp 25)
 (.seq
 (.reg false [
 ⟨some 26, .load 25 (.tmp 1), none, false, [], false⟩,
 ⟨none, .store 25 (.tmp 2) (.tmp 26), none, false, [], false⟩])
 .ret)
 .skip)))))))))))))
noncomputable def fi90 : FI := ⟨c90, 27, [.cell 2 25], .plain⟩
noncomputable def c91 : XC :=
 (.seq
 (.reg false [
 ⟨some 1, .box 25 (.tmp 0), none, false, [], false⟩,
 ⟨some 2, .alloc 25, none, false, [], false⟩])
 (.seq
 (.reg false [
 ⟨some 5, .load 25 (.tmp 1), none, false, [], false⟩,
 ⟨some 6, .call ⟨.value (.func 56), #[.tmp 5], #[25]⟩, none, false, [], false⟩,
 ⟨some 3, .alloc 25, none, false, [], false⟩,
 ⟨none, .store 25 (.tmp 3) (.tmp 6), none, false, [], false⟩])
 (.block 0
 (.loop
 (.block 1
 (.seq
 (.reg false [
 ⟨some 7, .fieldAddr 25 (.tmp 3) 4, none, false, [], false⟩,
 ⟨some 8, .load 23 (.tmp 7), none, false, [], false⟩,
 ⟨some 9, .call ⟨.value (.func 146), #[.tmp 8], #[23]⟩, none, false, [], false⟩,
 ⟨some 4, .assign (.tmp 9), none, false, [], false⟩])
 (.seq
 (.seq
 (.reg false [
 ⟨some 10, .move (.tmp 4), none, false, [], false⟩,
 ⟨some 11, .fieldAddr 25 (.tmp 3) 4, none, false, [], false⟩,
 ⟨some 12, .load 23 (.tmp 11), none, false, [], false⟩,
 ⟨some 13, .call ⟨.value (.func 64), #[.tmp 10, .tmp 12], #[23, 23]⟩, none, false, [], false⟩])
 (.cond (.tmp 13)
 (.seq
 (.reg false [
 ⟨some 14, .load 25 (.tmp 3), none, false, [], false⟩,
 ⟨none, .store 25 (.tmp 2) (.tmp 14), none, false, [], false⟩])
 .ret)
 .skip))
 (.reg false [
 ⟨some 15, .move (.tmp 4), none, false, [], false⟩,
 ⟨some 16, .fieldAddr 25 (.tmp 3) 4, none, false, [], false⟩,
 ⟨none, .store 23 (.tmp 16) (.tmp 15), none, false, [], false⟩]))))))))
noncomputable def fi91 : FI := ⟨c91, 17, [.cell 2 25], .plain⟩
noncomputable def c92 : XC :=
 (.seq
 (.reg false [
 ⟨some 1, .box 25 (.tmp 0), none, false, [], false⟩,
 ⟨some 2, .assign (.const (.int .i64 0)), none, false, [], false⟩])
 (.seq
 (.reg false [
 ⟨some 3, .assign (.const (.int .i64 0)), none, false, [], false⟩])
 (.seq
 (.seq
 (.reg false [
 ⟨some 4, .assign (.const (.int .i64 0)), none, false, [], false⟩])
 (.block 0
 (.loop
 (.seq
 (.seq
 (.reg false [
 ⟨some 5, .move (.tmp 4), none, false, [], false⟩,
 ⟨some 6, .fieldAddr 25 (.tmp 1) 4, none, false, [], false⟩,
 ⟨some 7, .load 23 (.tmp 6), none, false, [], false⟩,
 ⟨some 8, .call ⟨.builtin .len, #[.tmp 7], #[23]⟩, none, false, [], false⟩,
 ⟨some 9, .binOp .lss 3 (.tmp 5) (.tmp 8) 3, none, false, [], false⟩])
 (.cond (.tmp 9)
 .skip
 (.exit 0)))
 (.seq
 (.block 1
 (.reg false [
 ⟨some 12, .move (.tmp 3), none, false, [], false⟩,
 ⟨some 13, .fieldAddr 25 (.tmp 1) 4, none, false, [], false⟩,
 ⟨some 14, .load 23 (.tmp 13), none, false, [], false⟩,
 ⟨some 15, .move (.tmp 4), none, false, [], false⟩,
 ⟨some 16, .indexAddr 23 (.tmp 14) (.tmp 15), none, false, [], false⟩,
 ⟨some 17, .fieldAddr 49 (.tmp 16) 0, none, false, [], false⟩,
 ⟨some 18, .load 47 (.tmp 17), none, false, [], false⟩,
 ⟨some 19, .call ⟨.builtin .len, #[.tmp 18], #[47]⟩, none, false, [], false⟩,
 ⟨some 20, .binOp .add 3 (.tmp 12) (.tmp 19) 3, none, false, [], false⟩,
 ⟨some 3, .assign (.tmp 20), none, false, [], false⟩]))
 (.reg false [
 ⟨some 10, .move (.tmp 4), none, false, [], false⟩,
 ⟨some 11, .binOp .add 3 (.tmp 10) (.const (.int .i64 1)) 3, none, false, [], false⟩,
 ⟨some 4, .assign (.tmp 11), none, false, [], false⟩]))))))
 (.seq
 (.reg false [
 ⟨some 21, .move (.tmp 3), none, false, [], false⟩,
 ⟨some 2, .assign (.tmp 21), none, false, [], false⟩])
 .ret))))
noncomputable def fi92 : FI := ⟨c92, 22, [.tmp 2], .plain⟩
noncomputable def c93 : XC :=
 (.seq
 (.reg false [
 ⟨some 2, .assign (.const (.slice none 0 0)), none, false, [], false⟩])
 (.seq
 (.reg false [
 ⟨some 3, .assign (.const (.slice none 0 0)), none, false, [], false⟩])
 (.seq
 (.seq
 (.reg false [
 ⟨some 4, .assign (.const (.int .i64 0)), none, false, [], false⟩])
 (.block 0
 (.loop
 (.seq
 (.seq
 (.reg false [
 ⟨some 5, .move (.tmp 4), none, false, [], false⟩,
 ⟨some 6, .move (.tmp 0), none, false, [], false⟩,
 ⟨some 7, .call ⟨.builtin .len, #[.tmp 6], #[23]⟩, none, false, [], false⟩,
 ⟨some 8, .binOp .lss 3 (.tmp 5) (.tmp 7) 3, none, false, [], false⟩])
 (.cond (.tmp 8)
 .skip
 (.exit 0)))
 (.seq
 (.block 1
 (.reg true [
 ⟨some 12, .move (.tmp 0), none, false, [], false⟩,
 ⟨some 13, .move (.tmp 4), none, false, [], false⟩,
 ⟨some 14, .indexAddr 23 (.tmp 12) (.tmp 13), none, false, [], false⟩,
 ⟨some 15, .fieldAddr 49 (.tmp 14) 0, none, false, [], false⟩,
 ⟨some 16, .load 47 (.tmp 15), none, false, [], false⟩,
 ⟨some 17, .call ⟨.value (.func 147), #[.tmp 16], #[47]⟩, none, true, [false, false, false, false, false, true, true, false, true, true], false⟩,
 ⟨some 18, .move (.tmp 0), none, false, [], false⟩,
 ⟨some 19, .move (.tmp 4), none, false, [], false⟩,
 ⟨some 20, .indexAddr 23 (.tmp 18) (.tmp 19), none, false, [], false⟩,
 ⟨some 21, .fieldAddr 49 (.tmp 20) 1, none, false, [], false⟩,
 ⟨some 22, .load 29 (.tmp 21), none, false, [], true⟩,
 ⟨some 23, .build 49 #[(0, .tmp 17), (1, .tmp 22)], none, false, [], false⟩,
 ⟨some 24, .buildSlice 23 1 #[(0, .tmp 23)], none, false, [], false⟩,
 ⟨some 11, .move (.tmp 3), none, false, [], false⟩,
 ⟨some 25, .call ⟨.builtin .append, #[.tmp 11, .tmp 24], #[23, 23]⟩, none, false, [true], false⟩,
 ⟨some 3, .assign (.tmp 25), none, false, [], false⟩]))
 (.reg false [
 ⟨some 9, .move (.tmp 4), none, false, [], false⟩,
 ⟨some 10, .binOp .add 3 (.tmp 9) (.const (.int .i64 1)) 3, none, false, [], false⟩,
 ⟨some 4, .assign (.tmp 10), none, false, [], false⟩]))))))
 (.seq
 (.reg false [
 ⟨some 26, .move (.tmp 3), none, false, [], false⟩,
 ⟨some 2, .assign (.tmp 26), none, false, [], false⟩])
 .ret))))
noncomputable def fi93 : FI := ⟨c93, 27, [.tmp 2], .plain⟩
noncomputable def c94 : XC :=
 (.seq
 (.reg false [
 ⟨some 1, .box 29 (.tmp 0), none, false, [], false⟩,
 ⟨some 2, .assign (.const (.slice none 0 0)), none, false, [], false⟩])
 (.seq
 (.seq
 (.reg false [
 ⟨some 3, .fieldAddr 29 (.tmp 1) 0, none, false, [], false⟩,
 ⟨some 4, .load 3 (.tmp 3), none, false, [], false⟩])
 (.block 0
 (.seq
 (.reg false [
 ⟨some 6, .binOp .eql 3 (.tmp 4) (.const (.int .i64 1)) 3, none, false, [], false⟩,
 ⟨some 5, .assign (.tmp 6), none, false, [], false⟩])
 (.cond (.tmp 5)
 (.seq
 (.reg false [
 ⟨some 7, .fieldAddr 29 (.tmp 1) 2, none, false, [], false⟩,
 ⟨some 8, .load 3 (.tmp 7), none, false, [], false⟩,
 ⟨some 9, .buildSlice 22 1 #[(0, .tmp 8)], none, false, [], false⟩,
 ⟨some 2, .assign (.tmp 9), none, false, [], false⟩])
 .ret)
 (.seq
 (.reg false [
 ⟨some 11, .binOp .eql 3 (.tmp 4) (.const (.int .i64 2)) 3, none, false, [], false⟩,
 ⟨some 10, .assign (.tmp 11), none, false, [], false⟩])
 (.cond (.tmp 10)
 (.seq
 (.reg false [
 ⟨some 12, .fieldAddr 29 (.tmp 1) 2, none, false, [], false⟩,
 ⟨some 13, .load 3 (.tmp 12), none, false, [], false⟩,
 ⟨some 14, .fieldAddr 29 (.tmp 1) 3, none, false, [], false⟩,
 ⟨some 15, .load 3 (.tmp 14), none, false, [], false⟩,
 ⟨some 16, .buildSlice 22 2 #[(0, .tmp 13), (1, .tmp 15)], none, false, [], false⟩,
 ⟨some 2, .assign (.tmp 16), none, false, [], false⟩])
 .ret)
 .skip))))))
 (.seq
 (.reg false [
 ⟨some 2, .assign (.const (.slice none 0 0)), none, false, [], false⟩])
 .ret)))
noncomputable def fi94 : FI := ⟨c94, 17, [.tmp 2], .plain⟩
noncomputable def c95 : XC :=
 (.seq
 (.reg false [
 ⟨some 1, .box 36 (.tmp 0), none, false, [], false⟩,
 ⟨some 2, .alloc 36, none, false, [], false⟩])
 (.seq
 (.reg false [
 ⟨some 4, .load 36 (.tmp 1), none, false, [], false⟩,
 ⟨some 5, .call ⟨.value (.func 67), #[.tmp 4], #[36]⟩, none, false, [], false⟩,
 ⟨none, .store 36 (.tmp 1) (.tmp 5), none, false, [], false⟩])
 (.seq
 (.seq
 (.reg false [
 ⟨some 3, .assign (.const (.int .i64 0)), none, false, [], false⟩])
 (.block 0
 (.loop
 (.seq
 (.seq
 (.reg false [
 ⟨some 6, .move (.tmp 3), none, false, [], false⟩,
 ⟨some 7, .fieldAddr 36 (.tmp 1) 1, none, false, [], false⟩,
 ⟨some 8, .load 33 (.tmp 7), none, false, [], false⟩,
 ⟨some 9, .call ⟨.builtin .len, #[.tmp 8], #[33]⟩, none, false, [], false⟩,
 ⟨some 10, .binOp .lss 3 (.tmp 6) (.tmp 9) 3, none, false, [], false⟩])
 (.cond (.tmp 10)
 .skip
 (.exit 0)))
 (.seq
 (.block 1
 (.reg true [
 ⟨some 16, .fieldAddr 36 (.tmp 1) 1, none, false, [], false⟩,
 ⟨some 17, .load 33 (.tmp 16), none, false, [], false⟩,
 ⟨some 18, .move (.tmp 3), none, false, [], false⟩,
 ⟨some 19, .indexAddr 33 (.tmp 17) (.tmp 18), none, false, [], false⟩,
 ⟨some 20, .load 25 (.tmp 19), none, false, [], false⟩,
 ⟨some 21, .call ⟨.value (.func 90), #[.tmp 20], #[25]⟩, none, true, [false, false, false, true, true], false⟩,
 ⟨some 13, .fieldAddr 36 (.tmp 1) 1, none, false, [], false⟩,
 ⟨some 14, .load 33 (.tmp 13), none, false, [], true⟩,
 ⟨some 15, .move (.tmp 3), none, false, [], false⟩,
 ⟨some 22, .indexAddr 33 (.tmp 14) (.tmp 15), none, false, [], false⟩,
 ⟨none, .store 25 (.tmp 22) (.tmp 21), none, false, [], false⟩]))
 (.reg false [
 ⟨some 11, .move (.tmp 3), none, false, [], false⟩,
 ⟨some 12, .binOp .add 3 (.tmp 11) (.const (.int .i64 1)) 3, none, false, [], false⟩,
 ⟨some 3, .assign (.tmp 12), none, false, [], false⟩]))))))
 (.seq
 (.reg false [
 ⟨some 23, .load 36 (.tmp 1), none, false, [], false⟩,
 ⟨none, .store 36 (.tmp 2) (.tmp 23), none, false, [], false⟩])
 .ret))))
noncomputable def fi95 : FI := ⟨c95, 24, [.cell 2 36], .plain⟩
noncomputable def c96 : XC :=
 (.seq
 (.reg false [
 ⟨some 4, .assign (.const (.bool false)), none, false, [], false⟩])
 (.seq
 (.reg false [
 ⟨some 5, .move (.tmp 0), none, false, [], false⟩,
 ⟨some 6, .call ⟨.builtin .len, #[.tmp 5], #[22]⟩, none, false, [], false⟩,
 ⟨some 7, .move (.tmp 1), none, false, [], false⟩,
 ⟨some 8, .call ⟨.builtin .len, #[.tmp 7], #[22]⟩, none, false, [], false⟩,
 ⟨some 9, .binOp .geq 3 (.tmp 6) (.tmp 8) 3, none, false, [], false⟩,
 ⟨some 10, .move (.tmp 9), none, false, [], false⟩,
 ⟨some 11, .move (.tmp 0), some (some 10, true), false, [], false⟩,
 ⟨some 12, .move (.tmp 1), some (some 10, true), false, [], false⟩,
 ⟨some 13, .call ⟨.builtin .len, #[.tmp 12], #[22]⟩, some (some 10, true), false, [], false⟩,
 ⟨some 14, .slice 22 (.tmp 11) none (some (.tmp 13)) none, some (some 10, true), false, [], false⟩,
 ⟨some 15, .move (.tmp 1), some (some 10, true), false, [], false⟩,
 ⟨some 16, .call ⟨.value (.func 61), #[.tmp 14, .tmp 15], #[22, 22]⟩, some (some 10, true), false, [], false⟩,
 ⟨some 17, .pick (.tmp 10) (.tmp 16) (.const (.bool false)), none, false, [], false⟩,
 ⟨some 4, .assign (.tmp 17), none, false, [], false⟩])
 .ret))
noncomputable def fi96 : FI := ⟨c96, 18, [.tmp 4], .plain⟩
noncomputable def c100 : XC :=
 (.seq
 (.reg false [
 ⟨some 4, .call ⟨.builtin .recover, #[], #[]⟩, none, false, [], false⟩,
 ⟨some 2, .assign (.tmp 4), none, false, [], false⟩])
 (.seq
 (.reg false [
 ⟨some 5, .move (.tmp 2), none, false, [], false⟩,
 ⟨some 6, .binOp .neq 20 (.tmp 5) (.const .nilIface) 20, none, false, [], false⟩])
 (.cond (.tmp 6)
 (.seq
 (.reg false [
 ⟨some 7, .move (.tmp 2), none, false, [], false⟩,
 ⟨some 8, .typeAssert (.tmp 7) 20 118 false, none, false, [], false⟩,
 ⟨some 3, .alloc 118, none, false, [], false⟩,
 ⟨none, .store 118 (.tmp 3) (.tmp 8), none, false, [], false⟩])
 (.reg true [
 ⟨some 9, .load 114 (.tmp 0), none, false, [], false⟩,
 ⟨some 10, .nilCheck (.tmp 9), none, false, [], false⟩,
 ⟨some 11, .fieldAddr 116 (.tmp 10) 4, none, false, [], false⟩,
 ⟨some 12, .fieldAddr 66 (.tmp 11) 0, none, false, [], false⟩,
 ⟨some 13, .load 22 (.tmp 12), none, false, [], false⟩,
 ⟨some 14, .fieldAddr 118 (.tmp 3) 0, none, false, [], false⟩,
 ⟨some 15, .load 3 (.tmp 14), none, false, [], false⟩,
 ⟨some 16, .fieldAddr 118 (.tmp 3) 1, none, false, [], false⟩,
 ⟨some 17, .load 3 (.tmp 16), none, false, [], false⟩,
 ⟨some 18, .build 66 #[(0, .tmp 13), (1, .tmp 15), (2, .tmp 17)], none, false, [], false⟩,
 ⟨none, .store 66 (.tmp 1) (.tmp 18), none, false, [], false⟩]))
 .skip)))
noncomputable def fi100 : FI := ⟨c100, 19, [], .rcv 4 2 (.seq
 (.reg false [
 ⟨some 5, .move (.tmp 2), none, false, [], false⟩,
 ⟨some 6, .binOp .neq 20 (.tmp 5) (.const .nilIface) 20, none, false, [], false⟩])
 (.cond (.tmp 6)
 (.seq
 (.reg false [
 ⟨some 7, .move (.tmp 2), none, false, [], false⟩,
 ⟨some 8, .typeAssert (.tmp 7) 20 118 false, none, false, [], false⟩,
 ⟨some 3, .alloc 118, none, false, [], false⟩,
 ⟨none, .store 118 (.tmp 3) (.tmp 8), none, false, [], false⟩])
 (.reg true [
 ⟨some 9, .load 114 (.tmp 0), none, false, [], false⟩,
 ⟨some 10, .nilCheck (.tmp 9), none, false, [], false⟩,
 ⟨some 11, .fieldAddr 116 (.tmp 10) 4, none, false, [], false⟩,
 ⟨some 12, .fieldAddr 66 (.tmp 11) 0, none, false, [], false⟩,
 ⟨some 13, .load 22 (.tmp 12), none, false, [], false⟩,
 ⟨some 14, .fieldAddr 118 (.tmp 3) 0, none, false, [], false⟩,
 ⟨some 15, .load 3 (.tmp 14), none, false, [], false⟩,
 ⟨some 16, .fieldAddr 118 (.tmp 3) 1, none, false, [], false⟩,
 ⟨some 17, .load 3 (.tmp 16), none, false, [], false⟩,
 ⟨some 18, .build 66 #[(0, .tmp 13), (1, .tmp 15), (2, .tmp 17)], none, false, [], false⟩,
 ⟨none, .store 66 (.tmp 1) (.tmp 18), none, false, [], false⟩]))
 .skip))⟩
noncomputable def c101 : XC :=
 (.seq
 (.reg false [
 ⟨some 6, .assign (.const (.int .i64 0)), none, false, [], false⟩])
 (.seq
 (.seq
 (.reg false [
 ⟨some 13, .move (.tmp 0), none, false, [], false⟩,
 ⟨some 14, .nilCheck (.tmp 13), none, false, [], false⟩,
 ⟨some 15, .fieldAddr 116 (.tmp 14) 5, none, false, [], false⟩,
 ⟨some 16, .load 3 (.tmp 15), none, false, [], false⟩,
 ⟨some 17, .binOp .geq 3 (.tmp 16) (.const (.int .i64 32)) 3, none, false, [], false⟩])
 (.cond (.tmp 17)
 (.reg false [
 ⟨some 18, .call ⟨.value (.func 154), #[.const (.int .i64 4)], #[3]⟩, none, false, [], false⟩])
 .skip))
 (.seq
 (.reg false [
 ⟨some 19, .move (.tmp 0), none, false, [], false⟩,
 ⟨some 20, .nilCheck (.tmp 19), none, false, [], false⟩,
 ⟨some 21, .fieldAddr 116 (.tmp 20) 5, none, false, [], false⟩,
 ⟨some 22, .load 3 (.tmp 21), none, false, [], false⟩,
 ⟨some 23, .binOp .add 3 (.tmp 22) (.const (.int .i64 1)) 3, none, false, [], false⟩,
 ⟨some 24, .nilCheck (.tmp 19), none, false, [], false⟩,
 ⟨some 25, .fieldAddr 116 (.tmp 24) 5, none, false, [], false⟩,
 ⟨none, .store 3 (.tmp 25) (.tmp 23), none, false, [], false⟩])
 (.seq
 (.reg false [
 ⟨some 26, .move (.tmp 0), none, false, [], false⟩,
 ⟨some 27, .nilCheck (.tmp 26), none, false, [], false⟩,
 ⟨some 28, .fieldAddr 116 (.tmp 27) 0, none, false, [], false⟩,
 ⟨some 29, .fieldAddr 36 (.tmp 28) 1, none, false, [], false⟩,
 ⟨some 30, .load 33 (.tmp 29), none, false, [], false⟩,
 ⟨some 31, .move (.tmp 1), none, false, [], false⟩,
 ⟨some 32, .indexAddr 33 (.tmp 30) (.tmp 31), none, false, [], false⟩,
 ⟨some 33, .load 25 (.tmp 32), none, false, [], false⟩,
 ⟨some 7, .alloc 25, none, false, [], false⟩,
 ⟨none, .store 25 (.tmp 7) (.tmp 33), none, false, [], false⟩])
 (.seq
 (.reg false [
 ⟨some 34, .fieldAddr 25 (.tmp 7) 3, none, false, [], false⟩,
 ⟨some 35, .load 22 (.tmp 34), none, false, [], false⟩,
 ⟨some 36, .call ⟨.builtin .len, #[.tmp 35], #[22]⟩, none, false, [], false⟩,
 ⟨some 37, .makeSlice 22 (.tmp 36) (.tmp 36), none, false, [], false⟩,
 ⟨some 8, .assign (.tmp 37), none, false, [], false⟩])
 (.seq
 (.reg false [
 ⟨some 38, .move (.tmp 8), none, false, [], false⟩,
 ⟨some 39, .move (.tmp 2), none, false, [], false⟩,
 ⟨some 40, .call ⟨.builtin .copy, #[.tmp 38, .tmp 39], #[22, 22]⟩, none, false, [], false⟩])
 (.seq
 (.reg false [
 ⟨some 9, .assign (.const (.int .i64 0)), none, false, [], false⟩])
 (.block 0
 (.loop
 (.block 1
 (.seq
 (.seq
 (.reg false [
 ⟨some 41, .fieldAddr 25 (.tmp 7) 4, none, false, [], false⟩,
 ⟨some 42, .load 23 (.tmp 41), none, false, [], false⟩,
 ⟨some 43, .move (.tmp 9), none, false, [], false⟩,
 ⟨some 44, .indexAddr 23 (.tmp 42) (.tmp 43), none, false, [], false⟩,
 ⟨some 45, .fieldAddr 49 (.tmp 44) 0, none, false, [], false⟩,
 ⟨some 46, .load 47 (.tmp 45), none, false, [], false⟩,
 ⟨some 47, .call ⟨.builtin .len, #[.tmp 46], #[47]⟩, none, false, [], false⟩,
 ⟨some 48, .move (.const (.int .i64 0)), none, false, [], false⟩])
 (.block 2
 (.loop
 (.seq
 (.reg false [
 ⟨some 49, .binOp .lss 3 (.tmp 48) (.tmp 47) 3, none, false, [], false⟩])
 (.seq
 (.cond (.tmp 49)
 .skip
 (.exit 2))
 (.seq
 (.block 3
 (.seq
 (.reg false [
 ⟨some 50, .indexAddr 47 (.tmp 46) (.tmp 48), none, false, [], false⟩,
 ⟨some 51, .load 46 (.tmp 50), none, false, [], false⟩,
 ⟨some 11, .alloc 46, none, false, [], false⟩,
 ⟨none, .store 46 (.tmp 11) (.tmp 51), none, false, [], false⟩])
 (.seq
 (.reg false [
 ⟨some 52, .move (.tmp 0), none, false, [], false⟩,
 ⟨some 53, .call ⟨.value (.func 155), #[.tmp 52], #[114]⟩, none, false, [], false⟩])
 (.seq
 (.reg false [
 ⟨some 54, .fieldAddr 46 (.tmp 11) 0, none, false, [], false⟩,
 ⟨some 55, .load 3 (.tmp 54), none, false, [], false⟩,
 ⟨some 56, .binOp .eql 3 (.tmp 55) (.const (.int .i64 9)) 3, none, false, [], false⟩])
 (.cond (.tmp 56)
 (.reg false [
 ⟨some 57, .move (.tmp 0), none, false, [], false⟩,
 ⟨some 58, .load 46 (.tmp 11), none, false, [], false⟩,
 ⟨some 59, .move (.tmp 8), none, false, [], false⟩,
 ⟨some 60, .call ⟨.value (.func 156), #[.tmp 57, .tmp 58, .tmp 59], #[114, 46, 22]⟩, none, false, [], false⟩])
 (.reg false [
 ⟨some 61, .move (.tmp 0), none, false, [], false⟩,
 ⟨some 62, .load 46 (.tmp 11), none, false, [], false⟩,
 ⟨some 63, .move (.tmp 8), none, false, [], false⟩,
 ⟨some 64, .call ⟨.value (.func 157), #[.tmp 61, .tmp 62, .tmp 63], #[114, 46, 22]⟩, none, false, [], false⟩]))))))
 (.reg false [
 ⟨some 65, .binOp .add 3 (.tmp 48) (.const (.int .i64 1)) 3, none, false, [], false⟩,
 ⟨some 48, .move (.tmp 65), none, false, [], false⟩])))))))
 (.seq
 (.reg false [
 ⟨some 66, .move (.tmp 0), none, false, [], false⟩,
 ⟨some 67, .call ⟨.value (.func 155), #[.tmp 66], #[114]⟩, none, false, [], false⟩])
 (.seq
 (.reg false [
 ⟨some 68, .fieldAddr 25 (.tmp 7) 4, none, false, [], false⟩,
 ⟨some 69, .load 23 (.tmp 68), none, false, [], false⟩,
 ⟨some 70, .move (.tmp 9), none, false, [], false⟩,
 ⟨some 71, .indexAddr 23 (.tmp 69) (.tmp 70), none, false, [], false⟩,
 ⟨some 72, .fieldAddr 49 (.tmp 71) 1, none, false, [], false⟩,
 ⟨some 73, .load 29 (.tmp 72), none, false, [], false⟩,
 ⟨some 12, .alloc 29, none, false, [], false⟩,
 ⟨none, .store 29 (.tmp 12) (.tmp 73), none, false, [], false⟩])
 (.block 4
 (.seq
 (.reg false [
 ⟨some 77, .fieldAddr 29 (.tmp 12) 0, none, false, [], false⟩,
 ⟨some 78, .load 3 (.tmp 77), none, false, [], false⟩,
 ⟨some 79, .binOp .eql 3 (.tmp 78) (.const (.int .i64 3)) 3, none, false, [], false⟩,
 ⟨some 76, .assign (.tmp 79), none, false, [], false⟩])
 (.cond (.tmp 76)
 (.seq
 (.reg false [
 ⟨some 80, .move (.tmp 0), none, false, [], false⟩,
 ⟨some 81, .nilCheck (.tmp 80), none, false, [], false⟩,
 ⟨some 82, .fieldAddr 116 (.tmp 81) 5, none, false, [], false⟩,
 ⟨some 83, .load 3 (.tmp 82), none, false, [], false⟩,
 ⟨some 84, .binOp .sub 3 (.tmp 83) (.const (.int .i64 1)) 3, none, false, [], false⟩,
 ⟨some 85, .nilCheck (.tmp 80), none, false, [], false⟩,
 ⟨some 86, .fieldAddr 116 (.tmp 85) 5, none, false, [], false⟩,
 ⟨none, .store 3 (.tmp 86) (.tmp 84), none, false, [], false⟩])
 (.seq
 (.seq
 (.reg false [
 ⟨some 87, .fieldAddr 29 (.tmp 12) 1, none, false, [], false⟩,
 ⟨some 88, .load 3 (.tmp 87), none, false, [], false⟩,
 ⟨some 89, .binOp .lss 3 (.tmp 88) (.const (.int .i64 0)) 3, none, false, [], false⟩])
 (.cond (.tmp 89)
 (.seq
 (.reg false [
 ⟨some 6, .assign (.const (.int .i64 0)), none, false, [], false⟩])
 .ret)
 .skip))
 (.seq
 (.reg false [
 ⟨some 90, .move (.tmp 8), none, false, [], false⟩,
 ⟨some 91, .fieldAddr 29 (.tmp 12) 1, none, false, [], false⟩,
 ⟨some 92, .load 3 (.tmp 91), none, false, [], false⟩,
 ⟨some 93, .indexAddr 22 (.tmp 90) (.tmp 92), none, false, [], false⟩,
 ⟨some 94, .load 3 (.tmp 93), none, false, [], false⟩,
 ⟨some 6, .assign (.tmp 94), none, false, [], false⟩])
 .ret)))
 (.seq
 (.reg false [
 ⟨some 96, .fieldAddr 29 (.tmp 12) 0, none, false, [], false⟩,
 ⟨some 97, .load 3 (.tmp 96), none, false, [], false⟩,
 ⟨some 98, .binOp .eql 3 (.tmp 97) (.const (.int .i64 2)) 3, none, false, [], false⟩,
 ⟨some 99, .move (.tmp 98), none, false, [], false⟩,
 ⟨some 100, .move (.tmp 8), some (some 99, true), false, [], false⟩,
 ⟨some 101, .fieldAddr 29 (.tmp 12) 1, some (some 99, true), false, [], false⟩,
 ⟨some 102, .load 3 (.tmp 101), some (some 99, true), false, [], false⟩,
 ⟨some 103, .indexAddr 22 (.tmp 100) (.tmp 102), some (some 99, true), false, [], false⟩,
 ⟨some 104, .load 3 (.tmp 103), some (some 99, true), false, [], false⟩,
 ⟨some 105, .binOp .eql 3 (.tmp 104) (.const (.int .i64 0)) 3, some (some 99, true), false, [], false⟩,
 ⟨some 106, .pick (.tmp 99) (.tmp 105) (.const (.bool false)), none, false, [], false⟩,
 ⟨some 95, .assign (.tmp 106), none, false, [], false⟩])
 (.cond (.tmp 95)
 (.reg false [
 ⟨some 107, .fieldAddr 29 (.tmp 12) 3, none, false, [], false⟩,
 ⟨some 108, .load 3 (.tmp 107), none, false, [], false⟩,
 ⟨some 9, .assign (.tmp 108), none, false, [], false⟩])
 (.reg false [
 ⟨some 74, .fieldAddr 29 (.tmp 12) 2, none, false, [], false⟩,
 ⟨some 75, .load 3 (.tmp 74), none, false, [], false⟩,
 ⟨some 9, .assign (.tmp 75), none, false, [], false⟩])))))))))))))))))))
noncomputable def fi101 : FI := ⟨c101, 109, [.tmp 6], .plain⟩
noncomputable def c109 : XC :=
 (.seq
 (.reg false [
 ⟨some 2, .assign (.const (.slice none 0 0)), none, false, [], false⟩])
 (.seq
 (.reg false [
 ⟨some 3, .assign (.const (.slice none 0 0)), none, false, [], false⟩])
 (.seq
 (.seq
 (.reg false [
 ⟨some 4, .assign (.const (.int .i64 0)), none, false, [], false⟩])
 (.block 0
 (.loop
 (.seq
 (.seq
 (.reg false [
 ⟨some 5, .move (.tmp 4), none, false, [], false⟩,
 ⟨some 6, .move (.tmp 0), none, false, [], false⟩,
 ⟨some 7, .call ⟨.builtin .len, #[.tmp 6], #[22]⟩, none, false, [], false⟩,
 ⟨some 8, .binOp .lss 3 (.tmp 5) (.tmp 7) 3, none, false, [], false⟩])
 (.cond (.tmp 8)
 .skip
 (.exit 0)))
 (.seq
 (.block 1
 (.reg false [
 ⟨some 11, .move (.tmp 3), none, false, [], false⟩,
 ⟨some 12, .move (.tmp 0), none, false, [], false⟩,
 ⟨some 13, .move (.tmp 4), none, false, [], false⟩,
 ⟨some 14, .indexAddr 22 (.tmp 12) (.tmp 13), none, false, [], false⟩,
 ⟨some 15, .load 3 (.tmp 14), none, false, [], false⟩,
 ⟨some 16, .buildSlice 22 1 #[(0, .tmp 15)], none, false, [], false⟩,
 ⟨some 17, .call ⟨.builtin .append, #[.tmp 11, .tmp 16], #[22, 22]⟩, none, false, [], false⟩,
 ⟨some 3, .assign (.tmp 17), none, false, [], false⟩]))
 (.reg false [
 ⟨some 9, .move (.tmp 4), none, false, [], false⟩,
 ⟨some 10, .binOp .add 3 (.tmp 9) (.const (.int .i64 1)) 3, none, false, [], false⟩,
 ⟨some 4, .assign (.tmp 10), none, false, [], false⟩]))))))
 (.seq
 (.reg false [
 ⟨some 18, .move (.tmp 3), none, false, [], false⟩,
 ⟨some 2, .assign (.tmp 18), none, false, [], false⟩])
 .ret))))
noncomputable def fi109 : FI := ⟨c109, 19, [.tmp 2], .plain⟩
noncomputable def c111 : XC :=
 (.seq
 (.reg false [
 ⟨some 2, .assign (.const (.int .i64 0)), none, false, [], false⟩])
 (.block 0
 (.loop
 (.seq
 (.seq
 (.reg false [
 ⟨some 3, .move (.tmp 2), none, false, [], false⟩,
 ⟨some 4, .move (.tmp 0), none, false, [], false⟩,
 ⟨some 5, .call ⟨.builtin .len, #[.tmp 4], #[22]⟩, none, false, [], false⟩,
 ⟨some 6, .binOp .lss 3 (.tmp 3) (.tmp 5) 3, none, false, [], false⟩])
 (.cond (.tmp 6)
 .skip
 (.exit 0)))
 (.seq
 (.block 1
 (.reg false [
 ⟨some 9, .move (.tmp 0), none, false, [], false⟩,
 ⟨some 10, .move (.tmp 2), none, false, [], false⟩,
 ⟨some 11, .move (.tmp 2), none, false, [], false⟩,
 ⟨some 12, .binOp .add 3 (.tmp 11) (.const (.int .i64 7)) 3, none, false, [], false⟩,
 ⟨some 13, .call ⟨.value (.func 164), #[.tmp 12], #[3]⟩, none, false, [], false⟩,
 ⟨some 14, .indexAddr 22 (.tmp 9) (.tmp 10), none, false, [], false⟩,
 ⟨none, .store 3 (.tmp 14) (.tmp 13), none, false, [], false⟩]))
 (.reg false [
 ⟨some 7, .move (.tmp 2), none, false, [], false⟩,
 ⟨some 8, .binOp .add 3 (.tmp 7) (.const (.int .i64 1)) 3, none, false, [], false⟩,
 ⟨some 2, .assign (.tmp 8), none, false, [], false⟩]))))))
noncomputable def fi111 : FI := ⟨c111, 15, [], .plain⟩
noncomputable def c112 : XC :=
 (.seq
 (.reg false [
 ⟨some 2, .assign (.const (.int .i64 0)), none, false, [], false⟩])
 (.block 0
 (.loop
 (.seq
 (.seq
 (.reg false [
 ⟨some 3, .move (.tmp 2), none, false, [], false⟩,
 ⟨some 4, .move (.tmp 0), none, false, [], false⟩,
 ⟨some 5, .call ⟨.builtin .len, #[.tmp 4], #[47]⟩, none, false, [], false⟩,
 ⟨some 6, .binOp .lss 3 (.tmp 3) (.tmp 5) 3, none, false, [], false⟩])
 (.cond (.tmp 6)
 .skip
 (.exit 0)))
 (.seq
 (.block 1
 (.reg false [
 ⟨some 9, .move (.tmp 0), none, false, [], false⟩,
 ⟨some 10, .move (.tmp 2), none, false, [], false⟩,
 ⟨some 11, .move (.tmp 2), none, false, [], false⟩,
 ⟨some 12, .binOp .add 3 (.tmp 11) (.const (.int .i64 7)) 3, none, false, [], false⟩,
 ⟨some 13, .call ⟨.value (.func 165), #[.tmp 12], #[3]⟩, none, false, [], false⟩,
 ⟨some 14, .indexAddr 47 (.tmp 9) (.tmp 10), none, false, [], false⟩,
 ⟨none, .store 46 (.tmp 14) (.tmp 13), none, false, [], false⟩]))
 (.reg false [
 ⟨some 7, .move (.tmp 2), none, false, [], false⟩,
 ⟨some 8, .binOp .add 3 (.tmp 7) (.const (.int .i64 1)) 3, none, false, [], false⟩,
 ⟨some 2, .assign (.tmp 8), none, false, [], false⟩]))))))
noncomputable def fi112 : FI := ⟨c112, 15, [], .plain⟩
noncomputable def c113 : XC :=
 (.seq
 (.reg false [
 ⟨some 2, .assign (.const (.int .i64 0)), none, false, [], false⟩])
 (.block 0
 (.loop
 (.seq
 (.seq
 (.reg false [
 ⟨some 3, .move (.tmp 2), none, false, [], false⟩,
 ⟨some 4, .move (.tmp 0), none, false, [], false⟩,
 ⟨some 5, .call ⟨.builtin .len, #[.tmp 4], #[23]⟩, none, false, [], false⟩,
 ⟨some 6, .binOp .lss 3 (.tmp 3) (.tmp 5) 3, none, false, [], false⟩])
 (.cond (.tmp 6)
 .skip
 (.exit 0)))
 (.seq
 (.block 1
 (.reg false [
 ⟨some 9, .move (.tmp 0), none, false, [], false⟩,
 ⟨some 10, .move (.tmp 2), none, false, [], false⟩,
 ⟨some 11, .move (.tmp 2), none, false, [], false⟩,
 ⟨some 12, .binOp .add 3 (.tmp 11) (.const (.int .i64 7)) 3, none, false, [], false⟩,
 ⟨some 13, .call ⟨.value (.func 166), #[.tmp 12], #[3]⟩, none, false, [], false⟩,
 ⟨some 14, .indexAddr 23 (.tmp 9) (.tmp 10), none, false, [], false⟩,
 ⟨none, .store 49 (.tmp 14) (.tmp 13), none, false, [], false⟩]))
 (.reg false [
 ⟨some 7, .move (.tmp 2), none, false, [], false⟩,
 ⟨some 8, .binOp .add 3 (.tmp 7) (.const (.int .i64 1)) 3, none, false, [], false⟩,
 ⟨some 2, .assign (.tmp 8), none, false, [], false⟩]))))))
noncomputable def fi113 : FI := ⟨c113, 15, [], .plain⟩
noncomputable def c114 : XC :=
 (.seq
 (.reg false [
 ⟨some 2, .box 46 (.tmp 0), none, false, [], false⟩,
 ⟨some 3, .box 46 (.tmp 1), none, false, [], false⟩,
 ⟨some 4, .assign (.const (.bool false)), none, false, [], false⟩])
 (.seq
 (.reg false [
 ⟨some 5, .fieldAddr 46 (.tmp 2) 0, none, false, [], false⟩,
 ⟨some 6, .load 3 (.tmp 5), none, false, [], false⟩,
 ⟨some 7, .fieldAddr 46 (.tmp 3) 0, none, false, [], false⟩,
 ⟨some 8, .load 3 (.tmp 7), none, false, [], false⟩,
 ⟨some 9, .binOp .eql 3 (.tmp 6) (.tmp 8) 3, none, false, [], false⟩,
 ⟨some 10, .move (.tmp 9), none, false, [], false⟩,
 ⟨some 11, .fieldAddr 46 (.tmp 2) 1, some (some 10, true), false, [], false⟩,
 ⟨some 12, .load 3 (.tmp 11), some (some 10, true), false, [], false⟩,
 ⟨some 13, .fieldAddr 46 (.tmp 3) 1, some (some 10, true), false, [], false⟩,
 ⟨some 14, .load 3 (.tmp 13), some (some 10, true), false, [], false⟩,
 ⟨some 15, .binOp .eql 3 (.tmp 12) (.tmp 14) 3, some (some 10, true), false, [], false⟩,
 ⟨some 16, .pick (.tmp 10) (.tmp 15) (.const (.bool false)), none, false, [], false⟩,
 ⟨some 17, .move (.tmp 16), none, false, [], false⟩,
 ⟨some 18, .fieldAddr 46 (.tmp 2) 2, some (some 17, true), false, [], false⟩,
 ⟨some 19, .load 3 (.tmp 18), some (some 17, true), false, [], false⟩,
 ⟨some 20, .fieldAddr 46 (.tmp 3) 2, some (some 17, true), false, [], false⟩,
 ⟨some 21, .load 3 (.tmp 20), some (some 17, true), false, [], false⟩,
 ⟨some 22, .binOp .eql 3 (.tmp 19) (.tmp 21) 3, some (some 17, true), false, [], false⟩,
 ⟨some 23, .pick (.tmp 17) (.tmp 22) (.const (.bool false)), none, false, [], false⟩,
 ⟨some 24, .move (.tmp 23), none, false, [], false⟩,
 ⟨some 25, .fieldAddr 46 (.tmp 2) 3, some (some 24, true), false, [], false⟩,
 ⟨some 26, .load 3 (.tmp 25), some (some 24, true), false, [], false⟩,
 ⟨some 27, .fieldAddr 46 (.tmp 3) 3, some (some 24, true), false, [], false⟩,
 ⟨some 28, .load 3 (.tmp 27), some (some 24, true), false, [], false⟩,
 ⟨some 29, .binOp .eql 3 (.tmp 26) (.tmp 28) 3, some (some 24, true), false, [], false⟩,
 ⟨some 30, .pick (.tmp 24) (.tmp 29) (.const (.bool false)), none, false, [], false⟩,
 ⟨some 31, .move (.tmp 30), none, false, [], false⟩,
 ⟨some 32, .fieldAddr 46 (.tmp 2) 4, some (some 31, true), false, [], false⟩,
 ⟨some 33, .load 3 (.tmp 32), some (some 31, true), false, [], false⟩,
 ⟨some 34, .fieldAddr 46 (.tmp 3) 4, some (some 31, true), false, [], false⟩,
 ⟨some 35, .load 3 (.tmp 34), some (some 31, true), false, [], false⟩,
 ⟨some 36, .binOp .eql 3 (.tmp 33) (.tmp 35) 3, some (some 31, true), false, [], false⟩,
 ⟨some 37, .pick (.tmp 31) (.tmp 36) (.const (.bool false)), none, false, [], false⟩,
 ⟨some 38, .move (.tmp 37), none, false, [], false⟩,
 ⟨some 39, .fieldAddr 46 (.tmp 2) 5, some (some 38, true), false, [], false⟩,
 ⟨some 40, .load 3 (.tmp 39), some (some 38, true), false, [], false⟩,
 ⟨some 41, .fieldAddr 46 (.tmp 3) 5, some (some 38, true), false, [], false⟩,
 ⟨some 42, .load 3 (.tmp 41), some (some 38, true), false, [], false⟩,
 ⟨some 43, .binOp .eql 3 (.tmp 40) (.tmp 42) 3, some (some 38, true), false, [], false⟩,
 ⟨some 44, .pick (.tmp 38) (.tmp 43) (.const (.bool false)), none, false, [], false⟩,
 ⟨some 45, .move (.tmp 44), none, false, [], false⟩,
 ⟨some 46, .fieldAddr 46 (.tmp 2) 6, some (some 45, true), false, [], false⟩,
 ⟨some 47, .load 9 (.tmp 46), some (some 45, true), false, [], false⟩,
 ⟨some 48, .fieldAddr 46 (.tmp 3) 6, some (some 45, true), false, [], false⟩,
 ⟨some 49, .load 9 (.tmp 48), some (some 45, true), false, [], false⟩,
 ⟨some 50, .binOp .eql 9 (.tmp 47) (.tmp 49) 9, some (some 45, true), false, [], false⟩,
 ⟨some 51, .pick (.tmp 45) (.tmp 50) (.const (.bool false)), none, false, [], false⟩,
 ⟨some 52, .move (.tmp 51), none, false, [], false⟩,
 ⟨some 53, .fieldAddr 46 (.tmp 2) 7, some (some 52, true), false, [], false⟩,
 ⟨some 54, .load 22 (.tmp 53), some (some 52, true), false, [], false⟩,
 ⟨some 55, .fieldAddr 46 (.tmp 3) 7, some (some 52, true), false, [], false⟩,
 ⟨some 56, .load 22 (.tmp 55), some (some 52, true), false, [], false⟩,
 ⟨some 57, .call ⟨.value (.func 61), #[.tmp 54, .tmp 56], #[22, 22]⟩, some (some 52, true), false, [], false⟩,
 ⟨some 58, .pick (.tmp 52) (.tmp 57) (.const (.bool false)), none, false, [], false⟩,
 ⟨some 4, .assign (.tmp 58), none, false, [], false⟩])
 .ret))
noncomputable def fi114 : FI := ⟨c114, 59, [.tmp 4], .plain⟩
noncomputable def c116 : XC :=
 (.seq
 (.reg false [
 ⟨some 4, .assign (.const (.int .i64 0)), none, false, [], false⟩])
 (.seq
 (.seq
 (.reg false [
 ⟨some 6, .move (.tmp 0), none, false, [], false⟩,
 ⟨some 7, .call ⟨.builtin .len, #[.tmp 6], #[33]⟩, none, false, [], false⟩,
 ⟨some 8, .move (.const (.int .i64 0)), none, false, [], false⟩])
 (.block 0
 (.loop
 (.seq
 (.reg false [
 ⟨some 9, .binOp .lss 3 (.tmp 8) (.tmp 7) 3, none, false, [], false⟩])
 (.seq
 (.cond (.tmp 9)
 .skip
 (.exit 0))
 (.seq
 (.block 1
 (.seq
 (.reg false [
 ⟨some 10, .move (.tmp 8), none, false, [], false⟩,
 ⟨some 5, .assign (.tmp 10), none, false, [], false⟩])
 (.seq
 (.reg false [
 ⟨some 11, .move (.tmp 1), none, false, [], false⟩,
 ⟨some 12, .move (.tmp 0), none, false, [], false⟩,
 ⟨some 13, .move (.tmp 5), none, false, [], false⟩,
 ⟨some 14, .indexAddr 33 (.tmp 12) (.tmp 13), none, false, [], false⟩,
 ⟨some 15, .load 25 (.tmp 14), none, false, [], false⟩,
 ⟨some 16, .call ⟨.value (.tmp 11), #[.tmp 15], #[25]⟩, none, false, [], false⟩])
 (.cond (.tmp 16)
 (.seq
 (.reg false [
 ⟨some 17, .move (.tmp 5), none, false, [], false⟩,
 ⟨some 4, .assign (.tmp 17), none, false, [], false⟩])
 .ret)
 .skip))))
 (.reg false [
 ⟨some 18, .binOp .add 3 (.tmp 8) (.const (.int .i64 1)) 3, none, false, [], false⟩,
 ⟨some 8, .move (.tmp 18), none, false, [], false⟩])))))))
 (.seq
 (.reg false [
 ⟨some 4, .assign (.const (.int .i64 (-1))), none, false, [], false⟩])
 .ret)))
noncomputable def fi116 : FI := ⟨c116, 19, [.tmp 4], .plain⟩
noncomputable def c118 : XC :=
 (.seq
 (.reg false [
 ⟨some 2, .assign (.const (.slice none 0 0)), none, false, [], false⟩])
 (.seq
 (.reg false [
 ⟨some 3, .assign (.const (.slice none 0 0)), none, false, [], false⟩])
 (.seq
 (.seq
 (.reg false [
 ⟨some 4, .assign (.const (.int .i64 0)), none, false, [], false⟩])
 (.block 0
 (.loop
 (.seq
 (.seq
 (.reg false [
 ⟨some 5, .move (.tmp 4), none, false, [], false⟩,
 ⟨some 6, .move (.tmp 0), none, false, [], false⟩,
 ⟨some 7, .call ⟨.builtin .len, #[.tmp 6], #[34]⟩, none, false, [], false⟩,
 ⟨some 8, .binOp .lss 3 (.tmp 5) (.tmp 7) 3, none, false, [], false⟩])
 (.cond (.tmp 8)
 .skip
 (.exit 0)))
 (.seq
 (.block 1
 (.reg false [
 ⟨some 11, .move (.tmp 3), none, false, [], false⟩,
 ⟨some 12, .move (.tmp 0), none, false, [], false⟩,
 ⟨some 13, .move (.tmp 4), none, false, [], false⟩,
 ⟨some 14, .indexAddr 34 (.tmp 12) (.tmp 13), none, false, [], false⟩,
 ⟨some 15, .load 105 (.tmp 14), none, false, [], false⟩,
 ⟨some 16, .buildSlice 34 1 #[(0, .tmp 15)], none, false, [], false⟩,
 ⟨some 17, .call ⟨.builtin .append, #[.tmp 11, .tmp 16], #[34, 34]⟩, none, false, [], false⟩,
 ⟨some 3, .assign (.tmp 17), none, false, [], false⟩]))
 (.reg false [
 ⟨some 9, .move (.tmp 4), none, false, [], false⟩,
 ⟨some 10, .binOp .add 3 (.tmp 9) (.const (.int .i64 1)) 3, none, false, [], false⟩,
 ⟨some 4, .assign (.tmp 10), none, false, [], false⟩]))))))
 (.seq
 (.reg false [
 ⟨some 18, .move (.tmp 3), none, false, [], false⟩,
 ⟨some 2, .assign (.tmp 18), none, false, [], false⟩])
 .ret))))
noncomputable def fi118 : FI := ⟨c118, 19, [.tmp 2], .plain⟩
noncomputable def c119 : XC :=
 (.seq
 (.reg false [
 ⟨some 2, .assign (.const (.slice none 0 0)), none, false, [], false⟩])
 (.seq
 (.reg false [
 ⟨some 3, .assign (.const (.slice none 0 0)), none, false, [], false⟩])
 (.seq
 (.seq
 (.reg false [
 ⟨some 4, .assign (.const (.int .i64 0)), none, false, [], false⟩])
 (.block 0
 (.loop
 (.seq
 (.seq
 (.reg false [
 ⟨some 5, .move (.tmp 4), none, false, [], false⟩,
 ⟨some 6, .move (.tmp 0), none, false, [], false⟩,
 ⟨some 7, .call ⟨.builtin .len, #[.tmp 6], #[33]⟩, none, false, [], false⟩,
 ⟨some 8, .binOp .lss 3 (.tmp 5) (.tmp 7) 3, none, false, [], false⟩])
 (.cond (.tmp 8)
 .skip
 (.exit 0)))
 (.seq
 (.block 1
 (.reg false [
 ⟨some 11, .move (.tmp 3), none, false, [], false⟩,
 ⟨some 12, .move (.tmp 0), none, false, [], false⟩,
 ⟨some 13, .move (.tmp 4), none, false, [], false⟩,
 ⟨some 14, .indexAddr 33 (.tmp 12) (.tmp 13), none, false, [], false⟩,
 ⟨some 15, .load 25 (.tmp 14), none, false, [], false⟩,
 ⟨some 16, .call ⟨.value (.func 56), #[.tmp 15], #[25]⟩, none, false, [], false⟩,
 ⟨some 17, .buildSlice 33 1 #[(0, .tmp 16)], none, false, [], false⟩,
 ⟨some 18, .call ⟨.builtin .append, #[.tmp 11, .tmp 17], #[33, 33]⟩, none, false, [], false⟩,
 ⟨some 3, .assign (.tmp 18), none, false, [], false⟩]))
 (.reg false [
 ⟨some 9, .move (.tmp 4), none, false, [], false⟩,
 ⟨some 10, .binOp .add 3 (.tmp 9) (.const (.int .i64 1)) 3, none, false, [], false⟩,
 ⟨some 4, .assign (.tmp 10), none, false, [], false⟩]))))))
 (.seq
 (.reg false [
 ⟨some 19, .move (.tmp 3), none, false, [], false⟩,
 ⟨some 2, .assign (.tmp 19), none, false, [], false⟩])
 .ret))))
noncomputable def fi119 : FI := ⟨c119, 20, [.tmp 2], .plain⟩
noncomputable def c131 : XC :=
 (.seq
 (.reg false [
 ⟨some 1, .box 46 (.tmp 0), none, false, [], false⟩,
 ⟨some 2, .assign (.const (.slice none 0 0)), none, false, [], false⟩])
 (.seq
 (.seq
 (.reg false [
 ⟨some 3, .fieldAddr 46 (.tmp 1) 0, none, false, [], false⟩,
 ⟨some 4, .load 3 (.tmp 3), none, false, [], false⟩])
 (.block 0
 (.seq
 (.seq
 (.reg false [
 ⟨some 6, .binOp .eql 3 (.tmp 4) (.const (.int .i64 2)) 3, none, false, [], false⟩,
 ⟨some 5, .assign (.tmp 6), none, false, [], false⟩])
 (.cond (.tmp 5)
 .skip
 (.seq
 (.reg false [
 ⟨some 7, .binOp .eql 3 (.tmp 4) (.const (.int .i64 4)) 3, none, false, [], false⟩,
 ⟨some 5, .assign (.tmp 7), none, false, [], false⟩])
 (.cond (.tmp 5)
 .skip
 (.seq
 (.reg false [
 ⟨some 8, .binOp .eql 3 (.tmp 4) (.const (.int .i64 5)) 3, none, false, [], false⟩,
 ⟨some 5, .assign (.tmp 8), none, false, [], false⟩])
 (.cond (.tmp 5)
 .skip
 (.seq
 (.reg false [
 ⟨some 9, .binOp .eql 3 (.tmp 4) (.const (.int .i64 8)) 3, none, false, [], false⟩,
 ⟨some 5, .assign (.tmp 9), none, false, [], false⟩])
 (.cond (.tmp 5)
 .skip
 (.reg false [
 ⟨some 10, .binOp .eql 3 (.tmp 4) (.const (.int .i64 11)) 3, none, false, [], false⟩,
 ⟨some 5, .assign (.tmp 10), none, false, [], false⟩])))))))))
 (.cond (.tmp 5)
 (.seq
 (.reg false [
 ⟨some 11, .fieldAddr 46 (.tmp 1) 3, none, false, [], false⟩,
 ⟨some 12, .load 3 (.tmp 11), none, false, [], false⟩,
 ⟨some 13, .buildSlice 22 1 #[(0, .tmp 12)], none, false, [], false⟩,
 ⟨some 2, .assign (.tmp 13), none, false, [], false⟩])
 .ret)
 (.seq
 (.seq
 (.reg false [
 ⟨some 15, .binOp .eql 3 (.tmp 4) (.const (.int .i64 3)) 3, none, false, [], false⟩,
 ⟨some 14, .assign (.tmp 15), none, false, [], false⟩])
 (.cond (.tmp 14)
 .skip
 (.reg false [
 ⟨some 16, .binOp .eql 3 (.tmp 4) (.const (.int .i64 6)) 3, none, false, [], false⟩,
 ⟨some 14, .assign (.tmp 16), none, false, [], false⟩])))
 (.cond (.tmp 14)
 (.seq
 (.reg false [
 ⟨some 17, .fieldAddr 46 (.tmp 1) 3, none, false, [], false⟩,
 ⟨some 18, .load 3 (.tmp 17), none, false, [], false⟩,
 ⟨some 19, .fieldAddr 46 (.tmp 1) 4, none, false, [], false⟩,
 ⟨some 20, .load 3 (.tmp 19), none, false, [], false⟩,
 ⟨some 21, .buildSlice 22 2 #[(0, .tmp 18), (1, .tmp 20)], none, false, [], false⟩,
 ⟨some 2, .assign (.tmp 21), none, false, [], false⟩])
 .ret)
 (.seq
 (.reg false [
 ⟨some 23, .binOp .eql 3 (.tmp 4) (.const (.int .i64 9)) 3, none, false, [], false⟩,
 ⟨some 22, .assign (.tmp 23), none, false, [], false⟩])
 (.cond (.tmp 22)
 (.seq
 (.reg false [
 ⟨some 24, .fieldAddr 46 (.tmp 1) 7, none, false, [], false⟩,
 ⟨some 25, .load 22 (.tmp 24), none, false, [], false⟩,
 ⟨some 26, .call ⟨.value (.func 51), #[.tmp 25], #[22]⟩, none, false, [], false⟩,
 ⟨some 2, .assign (.tmp 26), none, false, [], false⟩])
 .ret)
 .skip))))))))
 (.seq
 (.reg false [
 ⟨some 2, .assign (.const (.slice none 0 0)), none, false, [], false⟩])
 .ret)))
noncomputable def fi131 : FI := ⟨c131, 27, [.tmp 2], .plain⟩
noncomputable def c136 : XC :=
 (.seq
 (.reg false [
 ⟨some 4, .assign (.const (.bool false)), none, false, [], false⟩])
 (.seq
 (.reg false [
 ⟨some 5, .move (.tmp 0), none, false, [], false⟩,
 ⟨some 6, .move (.tmp 1), none, false, [], false⟩,
 ⟨some 7, .call ⟨.value (.func 175), #[.tmp 5, .tmp 6], #[22, 99]⟩, none, false, [], false⟩,
 ⟨some 8, .binOp .geq 3 (.tmp 7) (.const (.int .i64 0)) 3, none, false, [], false⟩,
 ⟨some 4, .assign (.tmp 8), none, false, [], false⟩])
 .ret))
noncomputable def fi136 : FI := ⟨c136, 9, [.tmp 4], .plain⟩
noncomputable def c137 : XC :=
 (.seq
 (.reg false [
 ⟨some 2, .assign (.const (.bool false)), none, false, [], false⟩])
 (.seq
 (.reg false [
 ⟨some 3, .move (.tmp 0), none, false, [], false⟩,
 ⟨some 4, .call ⟨.value (.func 86), #[.tmp 3], #[3]⟩, none, false, [], false⟩,
 ⟨some 5, .unOp .not 4 (.tmp 4), none, false, [], false⟩,
 ⟨some 2, .assign (.tmp 5), none, false, [], false⟩])
 .ret))
noncomputable def fi137 : FI := ⟨c137, 6, [.tmp 2], .plain⟩
noncomputable def c138 : XC :=
 (.seq
 (.reg false [
 ⟨some 2, .box 107 (.tmp 0), none, false, [], false⟩,
 ⟨some 3, .box 46 (.tmp 1), none, false, [], false⟩,
 ⟨some 4, .assign (.const (.int .i64 0)), none, false, [], false⟩])
 (.seq
 (.block 0
 (.seq
 (.reg false [
 ⟨some 6, .load 46 (.tmp 3), none, false, [], false⟩,
 ⟨some 7, .call ⟨.value (.func 176), #[.tmp 6], #[46]⟩, none, false, [], false⟩,
 ⟨some 8, .unOp .not 4 (.tmp 7), none, false, [], false⟩,
 ⟨some 5, .assign (.tmp 8), none, false, [], false⟩])
 (.cond (.tmp 5)
 (.seq
 (.reg false [
 ⟨some 4, .assign (.const (.int .i64 2)), none, false, [], false⟩])
 .ret)
 (.seq
 (.reg false [
 ⟨some 10, .load 107 (.tmp 2), none, false, [], false⟩,
 ⟨some 11, .load 46 (.tmp 3), none, false, [], false⟩,
 ⟨some 12, .call ⟨.value (.func 177), #[.tmp 10, .tmp 11], #[107, 46]⟩, none, false, [], false⟩,
 ⟨some 13, .unOp .not 4 (.tmp 12), none, false, [], false⟩,
 ⟨some 9, .assign (.tmp 13), none, false, [], false⟩])
 (.cond (.tmp 9)
 (.seq
 (.reg false [
 ⟨some 4, .assign (.const (.int .i64 11)), none, false, [], false⟩])
 .ret)
 (.seq
 (.reg true [
 ⟨some 15, .fieldAddr 46 (.tmp 3) 0, none, false, [], false⟩,
 ⟨some 16, .load 3 (.tmp 15), none, false, [], false⟩,
 ⟨some 17, .binOp .eql 3 (.tmp 16) (.const (.int .i64 9)) 3, none, false, [], false⟩,
 ⟨some 18, .move (.tmp 17), none, false, [], false⟩,
 ⟨some 19, .fieldAddr 46 (.tmp 3) 7, some (some 18, true), false, [], false⟩,
 ⟨some 20, .load 22 (.tmp 19), some (some 18, true), false, [], false⟩,
 ⟨some 21, .call ⟨.builtin .len, #[.tmp 20], #[22]⟩, some (some 18, true), false, [], false⟩,
 ⟨some 22, .fieldAddr 107 (.tmp 2) 0, some (some 18, true), false, [], false⟩,
 ⟨some 23, .fieldAddr 36 (.tmp 22) 1, some (some 18, true), false, [], false⟩,
 ⟨some 24, .load 33 (.tmp 23), some (some 18, true), false, [], false⟩,
 ⟨some 25, .fieldAddr 46 (.tmp 3) 5, some (some 18, true), false, [], false⟩,
 ⟨some 26, .load 3 (.tmp 25), some (some 18, true), false, [], false⟩,
 ⟨some 27, .indexAddr 33 (.tmp 24) (.tmp 26), some (some 18, true), false, [], false⟩,
 ⟨some 28, .fieldAddr 25 (.tmp 27) 2, some (some 18, true), false, [], false⟩,
 ⟨some 29, .load 3 (.tmp 28), some (some 18, true), false, [], false⟩,
 ⟨some 30, .binOp .neq 3 (.tmp 21) (.tmp 29) 3, some (some 18, true), false, [], false⟩,
 ⟨some 31, .pick (.tmp 18) (.tmp 30) (.const (.bool false)), none, false, [], false⟩,
 ⟨some 14, .assign (.tmp 31), none, false, [], false⟩])
 (.cond (.tmp 14)
 (.seq
 (.reg false [
 ⟨some 4, .assign (.const (.int .i64 7)), none, false, [], false⟩])
 .ret)
 (.seq
 (.reg false [
 ⟨some 33, .load 107 (.tmp 2), none, false, [], false⟩,
 ⟨some 34, .load 46 (.tmp 3), none, false, [], false⟩,
 ⟨some 35, .call ⟨.value (.func 178), #[.tmp 33, .tmp 34], #[107, 46]⟩, none, false, [], false⟩,
 ⟨some 36, .unOp .not 4 (.tmp 35), none, false, [], false⟩,
 ⟨some 32, .assign (.tmp 36), none, false, [], false⟩])
 (.cond (.tmp 32)
 (.seq
 (.reg false [
 ⟨some 4, .assign (.const (.int .i64 6)), none, false, [], false⟩])
 .ret)
 .skip)))))))))
 (.seq
 (.reg false [
 ⟨some 4, .assign (.const (.int .i64 0)), none, false, [], false⟩])
 .ret)))
noncomputable def fi138 : FI := ⟨c138, 37, [.tmp 4], .plain⟩
noncomputable def c139 : XC :=
 (.seq
 (.reg false [
 ⟨some 2, .box 107 (.tmp 0), none, false, [], false⟩,
 ⟨some 3, .box 29 (.tmp 1), none, false, [], false⟩,
 ⟨some 4, .assign (.const (.int .i64 0)), none, false, [], false⟩])
 (.seq
 (.reg true [
 ⟨some 9, .fieldAddr 107 (.tmp 2) 1, none, false, [], false⟩,
 ⟨some 10, .fieldAddr 25 (.tmp 9) 4, none, false, [], false⟩,
 ⟨some 11, .load 23 (.tmp 10), none, false, [], false⟩,
 ⟨some 12, .call ⟨.builtin .len, #[.tmp 11], #[23]⟩, none, false, [], false⟩,
 ⟨some 13, .fieldAddr 107 (.tmp 2) 1, none, false, [], false⟩,
 ⟨some 14, .fieldAddr 25 (.tmp 13) 3, none, false, [], false⟩,
 ⟨some 15, .load 22 (.tmp 14), none, false, [], false⟩,
 ⟨some 16, .call ⟨.builtin .len, #[.tmp 15], #[22]⟩, none, false, [], false⟩,
 ⟨some 5, .assign (.tmp 12), none, false, [], false⟩,
 ⟨some 6, .assign (.tmp 16), none, false, [], false⟩])
 (.seq
 (.reg false [
 ⟨some 7, .assign (.const (.bool true)), none, false, [], false⟩,
 ⟨some 8, .assign (.const (.bool true)), none, false, [], false⟩])
 (.seq
 (.seq
 (.reg false [
 ⟨some 17, .fieldAddr 29 (.tmp 3) 0, none, false, [], false⟩,
 ⟨some 18, .load 3 (.tmp 17), none, false, [], false⟩])
 (.block 0
 (.seq
 (.reg false [
 ⟨some 20, .binOp .eql 3 (.tmp 18) (.const (.int .i64 1)) 3, none, false, [], false⟩,
 ⟨some 19, .assign (.tmp 20), none, false, [], false⟩])
 (.cond (.tmp 19)
 (.reg false [
 ⟨some 21, .fieldAddr 29 (.tmp 3) 2, none, false, [], false⟩,
 ⟨some 22, .load 3 (.tmp 21), none, false, [], false⟩,
 ⟨some 23, .move (.tmp 5), none, false, [], false⟩,
 ⟨some 24, .call ⟨.value (.func 179), #[.tmp 22, .tmp 23], #[3, 3]⟩, none, false, [], false⟩,
 ⟨some 7, .assign (.tmp 24), none, false, [], false⟩])
 (.seq
 (.reg false [
 ⟨some 26, .binOp .eql 3 (.tmp 18) (.const (.int .i64 2)) 3, none, false, [], false⟩,
 ⟨some 25, .assign (.tmp 26), none, false, [], false⟩])
 (.cond (.tmp 25)
 (.seq
 (.reg false [
 ⟨some 27, .fieldAddr 29 (.tmp 3) 2, none, false, [], false⟩,
 ⟨some 28, .load 3 (.tmp 27), none, false, [], false⟩,
 ⟨some 29, .move (.tmp 5), none, false, [], false⟩,
 ⟨some 30, .call ⟨.value (.func 179), #[.tmp 28, .tmp 29], #[3, 3]⟩, none, false, [], false⟩,
 ⟨some 31, .move (.tmp 30), none, false, [], false⟩,
 ⟨some 32, .fieldAddr 29 (.tmp 3) 3, some (some 31, true), false, [], false⟩,
 ⟨some 33, .load 3 (.tmp 32), some (some 31, true), false, [], false⟩,
 ⟨some 34, .move (.tmp 5), some (some 31, true), false, [], false⟩,
 ⟨some 35, .call ⟨.value (.func 179), #[.tmp 33, .tmp 34], #[3, 3]⟩, some (some 31, true), false, [], false⟩,
 ⟨some 36, .pick (.tmp 31) (.tmp 35) (.const (.bool false)), none, false, [], false⟩,
 ⟨some 37, .move (.tmp 36), none, false, [], false⟩,
 ⟨some 38, .fieldAddr 29 (.tmp 3) 1, some (some 37, true), false, [], false⟩,
 ⟨some 39, .load 3 (.tmp 38), some (some 37, true), false, [], false⟩,
 ⟨some 40, .move (.tmp 6), some (some 37, true), false, [], false⟩,
 ⟨some 41, .call ⟨.value (.func 179), #[.tmp 39, .tmp 40], #[3, 3]⟩, some (some 37, true), false, [], false⟩,
 ⟨some 42, .pick (.tmp 37) (.tmp 41) (.const (.bool false)), none, false, [], false⟩,
 ⟨some 7, .assign (.tmp 42), none, false, [], false⟩])
 (.reg false [
 ⟨some 43, .move (.tmp 7), none, false, [], false⟩,
 ⟨some 44, .move (.tmp 43), none, false, [], false⟩,
 ⟨some 45, .fieldAddr 107 (.tmp 2) 1, some (some 44, true), false, [], false⟩,
 ⟨some 46, .fieldAddr 25 (.tmp 45) 3, some (some 44, true), false, [], false⟩,
 ⟨some 47, .load 22 (.tmp 46), some (some 44, true), false, [], false⟩,
 ⟨some 48, .fieldAddr 29 (.tmp 3) 1, some (some 44, true), false, [], false⟩,
 ⟨some 49, .load 3 (.tmp 48), some (some 44, true), false, [], false⟩,
 ⟨some 50, .indexAddr 22 (.tmp 47) (.tmp 49), some (some 44, true), false, [], false⟩,
 ⟨some 51, .load 3 (.tmp 50), some (some 44, true), false, [], false⟩,
 ⟨some 52, .binOp .eql 3 (.tmp 51) (.const (.int .i64 1)) 3, some (some 44, true), false, [], false⟩,
 ⟨some 53, .pick (.tmp 44) (.tmp 52) (.const (.bool false)), none, false, [], false⟩,
 ⟨some 8, .assign (.tmp 53), none, false, [], false⟩]))
 (.seq
 (.reg false [
 ⟨some 55, .binOp .eql 3 (.tmp 18) (.const (.int .i64 3)) 3, none, false, [], false⟩,
 ⟨some 54, .assign (.tmp 55), none, false, [], false⟩])
 (.cond (.tmp 54)
 (.seq
 (.reg false [
 ⟨some 56, .fieldAddr 29 (.tmp 3) 1, none, false, [], false⟩,
 ⟨some 57, .load 3 (.tmp 56), none, false, [], false⟩,
 ⟨some 58, .binOp .lss 3 (.tmp 57) (.const (.int .i64 0)) 3, none, false, [], false⟩,
 ⟨some 59, .move (.tmp 58), none, false, [], false⟩,
 ⟨some 60, .fieldAddr 29 (.tmp 3) 1, some (some 59, false), false, [], false⟩,
 ⟨some 61, .load 3 (.tmp 60), some (some 59, false), false, [], false⟩,
 ⟨some 62, .move (.tmp 6), some (some 59, false), false, [], false⟩,
 ⟨some 63, .call ⟨.value (.func 179), #[.tmp 61, .tmp 62], #[3, 3]⟩, some (some 59, false), false, [], false⟩,
 ⟨some 64, .pick (.tmp 59) (.const (.bool true)) (.tmp 63), none, false, [], false⟩,
 ⟨some 7, .assign (.tmp 64), none, false, [], false⟩])
 (.reg true [
 ⟨some 65, .move (.tmp 7), none, false, [], false⟩,
 ⟨some 66, .move (.tmp 65), none, false, [], false⟩,
 ⟨some 67, .fieldAddr 29 (.tmp 3) 1, some (some 66, true), false, [], false⟩,
 ⟨some 68, .load 3 (.tmp 67), some (some 66, true), false, [], false⟩,
 ⟨some 69, .binOp .lss 3 (.tmp 68) (.const (.int .i64 0)) 3, some (some 66, true), false, [], false⟩,
 ⟨some 70, .fieldAddr 107 (.tmp 2) 1, some (some 66, true), false, [], false⟩,
 ⟨some 71, .fieldAddr 25 (.tmp 70) 1, some (some 66, true), false, [], false⟩,
 ⟨some 72, .load 3 (.tmp 71), some (some 66, true), false, [], false⟩,
 ⟨some 73, .binOp .eql 3 (.tmp 72) (.const (.int .i64 0)) 3, some (some 66, true), false, [], false⟩,
 ⟨some 74, .binOp .eql 4 (.tmp 69) (.tmp 73) 4, some (some 66, true), false, [], false⟩,
 ⟨some 75, .pick (.tmp 66) (.tmp 74) (.const (.bool false)), none, false, [], false⟩,
 ⟨some 76, .move (.tmp 75), none, false, [], false⟩,
 ⟨some 77, .fieldAddr 29 (.tmp 3) 1, some (some 76, true), false, [], false⟩,
 ⟨some 78, .load 3 (.tmp 77), some (some 76, true), false, [], false⟩,
 ⟨some 79, .binOp .lss 3 (.tmp 78) (.const (.int .i64 0)) 3, some (some 76, true), false, [], false⟩,
 ⟨some 80, .move (.tmp 79), some (some 76, true), false, [], false⟩,
 ⟨some 81, .fieldAddr 107 (.tmp 2) 1, some (some 80, false), false, [], false⟩,
 ⟨some 82, .fieldAddr 25 (.tmp 81) 3, some (some 80, false), false, [], false⟩,
 ⟨some 83, .load 22 (.tmp 82), some (some 80, false), false, [], false⟩,
 ⟨some 84, .fieldAddr 29 (.tmp 3) 1, some (some 80, false), false, [], false⟩,
 ⟨some 85, .load 3 (.tmp 84), some (some 80, false), false, [], false⟩,
 ⟨some 86, .indexAddr 22 (.tmp 83) (.tmp 85), some (some 80, false), false, [], false⟩,
 ⟨some 87, .load 3 (.tmp 86), some (some 80, false), false, [], false⟩,
 ⟨some 88, .fieldAddr 107 (.tmp 2) 1, some (some 80, false), false, [], false⟩,
 ⟨some 89, .fieldAddr 25 (.tmp 88) 1, some (some 80, false), false, [], false⟩,
 ⟨some 90, .load 3 (.tmp 89), some (some 80, false), false, [], false⟩,
 ⟨some 91, .binOp .eql 3 (.tmp 87) (.tmp 90) 3, some (some 80, false), false, [], false⟩,
 ⟨some 92, .pick (.tmp 80) (.const (.bool true)) (.tmp 91), some (some 76, true), false, [], false⟩,
 ⟨some 93, .pick (.tmp 76) (.tmp 92) (.const (.bool false)), none, false, [], false⟩,
 ⟨some 8, .assign (.tmp 93), none, false, [], false⟩]))
 (.seq
 (.reg false [
 ⟨some 4, .assign (.const (.int .i64 2)), none, false, [], false⟩])
 .ret)))))))))
 (.seq
 (.block 1
 (.seq
 (.reg false [
 ⟨some 95, .move (.tmp 7), none, false, [], false⟩,
 ⟨some 96, .unOp .not 4 (.tmp 95), none, false, [], false⟩,
 ⟨some 94, .assign (.tmp 96), none, false, [], false⟩])
 (.cond (.tmp 94)
 (.seq
 (.reg false [
 ⟨some 4, .assign (.const (.int .i64 11)), none, false, [], false⟩])
 .ret)
 (.seq
 (.reg false [
 ⟨some 98, .move (.tmp 8), none, false, [], false⟩,
 ⟨some 99, .unOp .not 4 (.tmp 98), none, false, [], false⟩,
 ⟨some 97, .assign (.tmp 99), none, false, [], false⟩])
 (.cond (.tmp 97)
 (.seq
 (.reg false [
 ⟨some 4, .assign (.const (.int .i64 6)), none, false, [], false⟩])
 .ret)
 .skip)))))
 (.seq
 (.reg false [
 ⟨some 4, .assign (.const (.int .i64 0)), none, false, [], false⟩])
 .ret))))))
noncomputable def fi139 : FI := ⟨c139, 100, [.tmp 4], .plain⟩
noncomputable def c140 : XC :=
 (.seq
 (.reg false [
 ⟨some 1, .box 25 (.tmp 0), none, false, [], false⟩,
 ⟨some 2, .assign (.const (.bool false)), none, false, [], false⟩])
 (.seq
 (.reg false [
 ⟨some 3, .fieldAddr 25 (.tmp 1) 0, none, false, [], false⟩,
 ⟨some 4, .load 9 (.tmp 3), none, false, [], false⟩,
 ⟨some 5, .binOp .eql 9 (.tmp 4) (.const (.string ⟨#[109, 97, 105, 110]⟩)) 9, none, false, [], false⟩,
 ⟨some 2, .assign (.tmp 5), none, false, [], false⟩])
 .ret))
noncomputable def fi140 : FI := ⟨c140, 6, [.tmp 2], .plain⟩
noncomputable def c141 : XC :=
 (.seq
 (.reg false [
 ⟨some 2, .assign (.const (.slice none 0 0)), none, false, [], false⟩])
 (.seq
 (.reg false [
 ⟨some 3, .assign (.const (.slice none 0 0)), none, false, [], false⟩])
 (.seq
 (.seq
 (.reg false [
 ⟨some 6, .move (.tmp 0), none, false, [], false⟩,
 ⟨some 7, .call ⟨.builtin .len, #[.tmp 6], #[23]⟩, none, false, [], false⟩,
 ⟨some 8, .move (.const (.int .i64 0)), none, false, [], false⟩])
 (.block 0
 (.loop
 (.seq
 (.reg false [
 ⟨some 9, .binOp .lss 3 (.tmp 8) (.tmp 7) 3, none, false, [], false⟩])
 (.seq
 (.cond (.tmp 9)
 .skip
 (.exit 0))
 (.seq
 (.block 1
 (.seq
 (.reg false [
 ⟨some 10, .indexAddr 23 (.tmp 6) (.tmp 8), none, false, [], false⟩,
 ⟨some 11, .load 49 (.tmp 10), none, false, [], false⟩,
 ⟨some 5, .alloc 49, none, false, [], false⟩,
 ⟨none, .store 49 (.tmp 5) (.tmp 11), none, false, [], false⟩])
 (.reg true [
 ⟨some 13, .fieldAddr 49 (.tmp 5) 0, none, false, [], false⟩,
 ⟨some 14, .load 47 (.tmp 13), none, false, [], false⟩,
 ⟨some 15, .call ⟨.value (.func 180), #[.tmp 14], #[47]⟩, none, true, [false, false, true, true, true, false, true, true], false⟩,
 ⟨some 16, .fieldAddr 49 (.tmp 5) 1, none, false, [], false⟩,
 ⟨some 17, .load 29 (.tmp 16), none, false, [], true⟩,
 ⟨some 18, .build 186 #[(0, .tmp 15), (1, .tmp 17)], none, false, [], false⟩,
 ⟨some 19, .box 186 (.tmp 18), none, false, [], false⟩,
 ⟨some 20, .buildSlice 154 1 #[(0, .tmp 19)], none, false, [], false⟩,
 ⟨some 12, .move (.tmp 3), none, false, [], false⟩,
 ⟨some 21, .call ⟨.builtin .append, #[.tmp 12, .tmp 20], #[154, 154]⟩, none, false, [true], false⟩,
 ⟨some 3, .assign (.tmp 21), none, false, [], false⟩])))
 (.reg false [
 ⟨some 22, .binOp .add 3 (.tmp 8) (.const (.int .i64 1)) 3, none, false, [], false⟩,
 ⟨some 8, .move (.tmp 22), none, false, [], false⟩])))))))
 (.seq
 (.reg false [
 ⟨some 23, .move (.tmp 3), none, false, [], false⟩,
 ⟨some 2, .assign (.tmp 23), none, false, [], false⟩])
 .ret))))
noncomputable def fi141 : FI := ⟨c141, 24, [.tmp 2], .plain⟩
noncomputable def c142 : XC :=
 (.seq
 (.reg false [
 ⟨some 10, .move (.tmp 0), none, false, [], false⟩,
 ⟨some 11, .call ⟨.builtin .len, #[.tmp 10], #[154]⟩, none, false, [], false⟩,
 ⟨some 12, .makeSlice 22 (.tmp 11) (.tmp 11), none, false, [], false⟩,
 ⟨some 2, .assign (.tmp 12), none, false, [], false⟩])
 (.seq
 (.seq
 (.reg false [
 ⟨some 13, .move (.tmp 0), none, false, [], false⟩,
 ⟨some 14, .call ⟨.builtin .len, #[.tmp 13], #[154]⟩, none, false, [], false⟩,
 ⟨some 15, .move (.const (.int .i64 0)), none, false, [], false⟩])
 (.block 0
 (.loop
 (.seq
 (.reg false [
 ⟨some 16, .binOp .lss 3 (.tmp 15) (.tmp 14) 3, none, false, [], false⟩])
 (.seq
 (.cond (.tmp 16)
 .skip
 (.exit 0))
 (.seq
 (.block 1
 (.seq
 (.reg false [
 ⟨some 17, .move (.tmp 15), none, false, [], false⟩,
 ⟨some 3, .assign (.tmp 17), none, false, [], false⟩])
 (.reg false [
 ⟨some 18, .move (.tmp 2), none, false, [], false⟩,
 ⟨some 19, .move (.tmp 3), none, false, [], false⟩,
 ⟨some 20, .move (.tmp 0), none, false, [], false⟩,
 ⟨some 21, .move (.tmp 3), none, false, [], false⟩,
 ⟨some 22, .call ⟨.value (.func 181), #[.tmp 20, .tmp 21], #[154, 3]⟩, none, false, [], false⟩,
 ⟨some 23, .indexAddr 22 (.tmp 18) (.tmp 19), none, false, [], false⟩,
 ⟨none, .store 3 (.tmp 23) (.tmp 22), none, false, [], false⟩])))
 (.reg false [
 ⟨some 24, .binOp .add 3 (.tmp 15) (.const (.int .i64 1)) 3, none, false, [], false⟩,
 ⟨some 15, .move (.tmp 24), none, false, [], false⟩])))))))
 (.seq
 (.seq
 (.reg false [
 ⟨some 25, .move (.tmp 0), none, false, [], false⟩,
 ⟨some 26, .call ⟨.builtin .len, #[.tmp 25], #[154]⟩, none, false, [], false⟩,
 ⟨some 27, .move (.const (.int .i64 0)), none, false, [], false⟩])
 (.block 2
 (.loop
 (.seq
 (.reg false [
 ⟨some 28, .binOp .lss 3 (.tmp 27) (.tmp 26) 3, none, false, [], false⟩])
 (.seq
 (.cond (.tmp 28)
 .skip
 (.exit 2))
 (.seq
 (.block 3
 (.seq
 (.reg false [
 ⟨some 29, .indexAddr 154 (.tmp 25) (.tmp 27), none, false, [], false⟩,
 ⟨some 30, .load 184 (.tmp 29), none, false, [], false⟩,
 ⟨some 5, .assign (.tmp 30), none, false, [], false⟩])
 (.seq
 (.reg false [
 ⟨some 31, .move (.tmp 5), none, false, [], false⟩,
 ⟨some 32, .call ⟨.value (.func 182), #[.tmp 31], #[184]⟩, none, false, [], false⟩,
 ⟨some 33, .call ⟨.builtin .len, #[.tmp 32], #[187]⟩, none, false, [], false⟩,
 ⟨some 34, .move (.const (.int .i64 0)), none, false, [], false⟩])
 (.block 4
 (.loop
 (.seq
 (.reg false [
 ⟨some 35, .binOp .lss 3 (.tmp 34) (.tmp 33) 3, none, false, [], false⟩])
 (.seq
 (.cond (.tmp 35)
 .skip
 (.exit 4))
 (.seq
 (.block 5
 (.seq
 (.reg false [
 ⟨some 36, .indexAddr 187 (.tmp 32) (.tmp 34), none, false, [], false⟩,
 ⟨some 37, .load 124 (.tmp 36), none, false, [], false⟩,
 ⟨some 7, .assign (.tmp 37), none, false, [], false⟩])
 (.reg false [
 ⟨some 38, .move (.tmp 7), none, false, [], false⟩,
 ⟨some 39, .move (.tmp 2), none, false, [], false⟩,
 ⟨some 40, .move (.tmp 7), none, false, [], false⟩,
 ⟨some 41, .nilCheck (.tmp 40), none, false, [], false⟩,
 ⟨some 42, .load 3 (.tmp 41), none, false, [], false⟩,
 ⟨some 43, .indexAddr 22 (.tmp 39) (.tmp 42), none, false, [], false⟩,
 ⟨some 44, .load 3 (.tmp 43), none, false, [], false⟩,
 ⟨some 45, .nilCheck (.tmp 38), none, false, [], false⟩,
 ⟨none, .store 3 (.tmp 45) (.tmp 44), none, false, [], false⟩])))
 (.reg false [
 ⟨some 46, .binOp .add 3 (.tmp 34) (.const (.int .i64 1)) 3, none, false, [], false⟩,
 ⟨some 34, .move (.tmp 46), none, false, [], false⟩])))))))))
 (.reg false [
 ⟨some 47, .binOp .add 3 (.tmp 27) (.const (.int .i64 1)) 3, none, false, [], false⟩,
 ⟨some 27, .move (.tmp 47), none, false, [], false⟩])))))))
 (.seq
 (.reg false [
 ⟨some 48, .move (.tmp 0), none, false, [], false⟩,
 ⟨some 49, .call ⟨.builtin .len, #[.tmp 48], #[154]⟩, none, false, [], false⟩,
 ⟨some 50, .move (.const (.int .i64 0)), none, false, [], false⟩])
 (.block 6
 (.loop
 (.seq
 (.reg false [
 ⟨some 51, .binOp .lss 3 (.tmp 50) (.tmp 49) 3, none, false, [], false⟩])
 (.seq
 (.cond (.tmp 51)
 .skip
 (.exit 6))
 (.seq
 (.block 7
 (.seq
 (.reg false [
 ⟨some 52, .indexAddr 154 (.tmp 48) (.tmp 50), none, false, [], false⟩,
 ⟨some 53, .load 184 (.tmp 52), none, false, [], false⟩,
 ⟨some 9, .assign (.tmp 53), none, false, [], false⟩])
 (.seq
 (.reg true [
 ⟨some 54, .move (.tmp 9), none, false, [], false⟩,
 ⟨some 55, .nilCheck (.tmp 54), none, false, [], false⟩,
 ⟨some 56, .fieldAddr 186 (.tmp 55) 1, none, false, [], false⟩,
 ⟨some 57, .fieldAddr 29 (.tmp 56) 0, none, false, [], false⟩,
 ⟨some 58, .load 3 (.tmp 57), none, false, [], false⟩,
 ⟨some 59, .binOp .eql 3 (.tmp 58) (.const (.int .i64 2)) 3, none, false, [], false⟩,
 ⟨some 60, .move (.tmp 59), none, false, [], false⟩,
 ⟨some 61, .move (.tmp 9), some (some 60, true), false, [], false⟩,
 ⟨some 62, .nilCheck (.tmp 61), some (some 60, true), false, [], false⟩,
 ⟨some 63, .fieldAddr 186 (.tmp 62) 1, some (some 60, true), false, [], false⟩,
 ⟨some 64, .fieldAddr 29 (.tmp 63) 2, some (some 60, true), false, [], false⟩,
 ⟨some 65, .load 3 (.tmp 64), some (some 60, true), false, [], false⟩,
 ⟨some 66, .move (.tmp 9), some (some 60, true), false, [], false⟩,
 ⟨some 67, .nilCheck (.tmp 66), some (some 60, true), false, [], false⟩,
 ⟨some 68, .fieldAddr 186 (.tmp 67) 1, some (some 60, true), false, [], false⟩,
 ⟨some 69, .fieldAddr 29 (.tmp 68) 3, some (some 60, true), false, [], false⟩,
 ⟨some 70, .load 3 (.tmp 69), some (some 60, true), false, [], false⟩,
 ⟨some 71, .binOp .eql 3 (.tmp 65) (.tmp 70) 3, some (some 60, true), false, [], false⟩,
 ⟨some 72, .pick (.tmp 60) (.tmp 71) (.const (.bool false)), none, false, [], false⟩])
 (.cond (.tmp 72)
 (.reg false [
 ⟨some 73, .move (.tmp 9), none, false, [], false⟩,
 ⟨some 74, .move (.tmp 9), none, false, [], false⟩,
 ⟨some 75, .nilCheck (.tmp 74), none, false, [], false⟩,
 ⟨some 76, .fieldAddr 186 (.tmp 75) 1, none, false, [], false⟩,
 ⟨some 77, .fieldAddr 29 (.tmp 76) 2, none, false, [], false⟩,
 ⟨some 78, .load 3 (.tmp 77), none, false, [], false⟩,
 ⟨some 79, .build 29 #[(0, .const (.int .i64 1)), (2, .tmp 78)], none, false, [], false⟩,
 ⟨some 80, .nilCheck (.tmp 73), none, false, [], false⟩,
 ⟨some 81, .fieldAddr 186 (.tmp 80) 1, none, false, [], false⟩,
 ⟨none, .store 29 (.tmp 81) (.tmp 79), none, false, [], false⟩])
 .skip))))
 (.reg false [
 ⟨some 82, .binOp .add 3 (.tmp 50) (.const (.int .i64 1)) 3, none, false, [], false⟩,
 ⟨some 50, .move (.tmp 82), none, false, [], false⟩]))))))))))
noncomputable def fi142 : FI := ⟨c142, 83, [], .plain⟩
noncomputable def c143 : XC :=
 (.seq
 (.reg false [
 ⟨some 7, .move (.tmp 0), none, false, [], false⟩,
 ⟨some 8, .call ⟨.value (.func 183), #[.tmp 7, .const (.int .i64 0)], #[154, 3]⟩, none, false, [], false⟩])
 (.seq
 (.seq
 (.reg false [
 ⟨some 9, .move (.tmp 0), none, false, [], false⟩,
 ⟨some 10, .call ⟨.builtin .len, #[.tmp 9], #[154]⟩, none, false, [], false⟩,
 ⟨some 11, .move (.const (.int .i64 0)), none, false, [], false⟩])
 (.block 0
 (.loop
 (.seq
 (.reg false [
 ⟨some 12, .binOp .lss 3 (.tmp 11) (.tmp 10) 3, none, false, [], false⟩])
 (.seq
 (.cond (.tmp 12)
 .skip
 (.exit 0))
 (.seq
 (.block 1
 (.seq
 (.reg false [
 ⟨some 13, .indexAddr 154 (.tmp 9) (.tmp 11), none, false, [], false⟩,
 ⟨some 14, .load 184 (.tmp 13), none, false, [], false⟩,
 ⟨some 3, .assign (.tmp 14), none, false, [], false⟩])
 (.reg false [
 ⟨some 15, .move (.tmp 3), none, false, [], false⟩,
 ⟨some 16, .move (.tmp 3), none, false, [], false⟩,
 ⟨some 17, .nilCheck (.tmp 16), none, false, [], false⟩,
 ⟨some 18, .fieldAddr 186 (.tmp 17) 2, none, false, [], false⟩,
 ⟨some 19, .load 3 (.tmp 18), none, false, [], false⟩,
 ⟨some 20, .binOp .eql 3 (.tmp 19) (.const (.int .i64 0)) 3, none, false, [], false⟩,
 ⟨some 21, .nilCheck (.tmp 15), none, false, [], false⟩,
 ⟨some 22, .fieldAddr 186 (.tmp 21) 3, none, false, [], false⟩,
 ⟨none, .store 4 (.tmp 22) (.tmp 20), none, false, [], false⟩])))
 (.reg false [
 ⟨some 23, .binOp .add 3 (.tmp 11) (.const (.int .i64 1)) 3, none, false, [], false⟩,
 ⟨some 11, .move (.tmp 23), none, false, [], false⟩])))))))
 (.seq
 (.reg false [
 ⟨some 24, .move (.tmp 0), none, false, [], false⟩,
 ⟨some 25, .call ⟨.builtin .len, #[.tmp 24], #[154]⟩, none, false, [], false⟩,
 ⟨some 26, .move (.const (.int .i64 0)), none, false, [], false⟩])
 (.block 2
 (.loop
 (.seq
 (.reg false [
 ⟨some 27, .binOp .lss 3 (.tmp 26) (.tmp 25) 3, none, false, [], false⟩])
 (.seq
 (.cond (.tmp 27)
 .skip
 (.exit 2))
 (.seq
 (.block 3
 (.seq
 (.reg false [
 ⟨some 28, .move (.tmp 26), none, false, [], false⟩,
 ⟨some 29, .indexAddr 154 (.tmp 24) (.tmp 26), none, false, [], false⟩,
 ⟨some 30, .load 184 (.tmp 29), none, false, [], false⟩,
 ⟨some 4, .assign (.tmp 28), none, false, [], false⟩,
 ⟨some 5, .assign (.tmp 30), none, false, [], false⟩])
 (.block 4
 (.loop
 (.seq
 (.seq
 (.reg false [
 ⟨some 31, .move (.tmp 5), none, false, [], false⟩,
 ⟨some 32, .nilCheck (.tmp 31), none, false, [], false⟩,
 ⟨some 33, .fieldAddr 186 (.tmp 32) 3, none, false, [], false⟩,
 ⟨some 34, .load 4 (.tmp 33), none, false, [], false⟩,
 ⟨some 35, .unOp .not 4 (.tmp 34), none, false, [], false⟩,
 ⟨some 36, .move (.tmp 35), none, false, [], false⟩,
 ⟨some 37, .move (.tmp 5), some (some 36, true), false, [], false⟩,
 ⟨some 38, .nilCheck (.tmp 37), some (some 36, true), false, [], false⟩,
 ⟨some 39, .fieldAddr 186 (.tmp 38) 1, some (some 36, true), false, [], false⟩,
 ⟨some 40, .fieldAddr 29 (.tmp 39) 0, some (some 36, true), false, [], false⟩,
 ⟨some 41, .load 3 (.tmp 40), some (some 36, true), false, [], false⟩,
 ⟨some 42, .binOp .eql 3 (.tmp 41) (.const (.int .i64 1)) 3, some (some 36, true), false, [], false⟩,
 ⟨some 43, .pick (.tmp 36) (.tmp 42) (.const (.bool false)), none, false, [], false⟩])
 (.cond (.tmp 43)
 .skip
 (.exit 4)))
 (.block 5
 (.seq
 (.reg false [
 ⟨some 44, .move (.tmp 5), none, false, [], false⟩,
 ⟨some 45, .nilCheck (.tmp 44), none, false, [], false⟩,
 ⟨some 46, .fieldAddr 186 (.tmp 45) 1, none, false, [], false⟩,
 ⟨some 47, .fieldAddr 29 (.tmp 46) 2, none, false, [], false⟩,
 ⟨some 48, .load 3 (.tmp 47), none, false, [], false⟩,
 ⟨some 6, .assign (.tmp 48), none, false, [], false⟩])
 (.seq
 (.seq
 (.reg false [
 ⟨some 49, .move (.tmp 6), none, false, [], false⟩,
 ⟨some 50, .move (.tmp 4), none, false, [], false⟩,
 ⟨some 51, .binOp .eql 3 (.tmp 49) (.tmp 50) 3, none, false, [], false⟩,
 ⟨some 52, .move (.tmp 51), none, false, [], false⟩,
 ⟨some 53, .move (.tmp 6), some (some 52, false), false, [], false⟩,
 ⟨some 54, .binOp .eql 3 (.tmp 53) (.const (.int .i64 0)) 3, some (some 52, false), false, [], false⟩,
 ⟨some 55, .pick (.tmp 52) (.const (.bool true)) (.tmp 54), none, false, [], false⟩,
 ⟨some 56, .move (.tmp 55), none, false, [], false⟩,
 ⟨some 57, .move (.tmp 0), some (some 56, false), false, [], false⟩,
 ⟨some 58, .move (.tmp 6), some (some 56, false), false, [], false⟩,
 ⟨some 59, .indexAddr 154 (.tmp 57) (.tmp 58), some (some 56, false), false, [], false⟩,
 ⟨some 60, .load 184 (.tmp 59), some (some 56, false), false, [], false⟩,
 ⟨some 61, .nilCheck (.tmp 60), some (some 56, false), false, [], false⟩,
 ⟨some 62, .fieldAddr 186 (.tmp 61) 2, some (some 56, false), false, [], false⟩,
 ⟨some 63, .load 3 (.tmp 62), some (some 56, false), false, [], false⟩,
 ⟨some 64, .binOp .neq 3 (.tmp 63) (.const (.int .i64 1)) 3, some (some 56, false), false, [], false⟩,
 ⟨some 65, .pick (.tmp 56) (.const (.bool true)) (.tmp 64), none, false, [], false⟩])
 (.cond (.tmp 65)
 (.exit 4)
 .skip))
 (.seq
 (.reg true [
 ⟨some 67, .move (.tmp 5), none, false, [], false⟩,
 ⟨some 68, .nilCheck (.tmp 67), none, false, [], false⟩,
 ⟨some 69, .fieldAddr 186 (.tmp 68) 0, none, false, [], false⟩,
 ⟨some 70, .load 47 (.tmp 69), none, false, [], false⟩,
 ⟨some 71, .move (.tmp 0), none, false, [], false⟩,
 ⟨some 72, .move (.tmp 6), none, false, [], false⟩,
 ⟨some 73, .indexAddr 154 (.tmp 71) (.tmp 72), none, false, [], false⟩,
 ⟨some 74, .load 184 (.tmp 73), none, false, [], false⟩,
 ⟨some 75, .nilCheck (.tmp 74), none, false, [], false⟩,
 ⟨some 76, .fieldAddr 186 (.tmp 75) 0, none, false, [], false⟩,
 ⟨some 77, .load 47 (.tmp 76), none, false, [], false⟩,
 ⟨some 78, .call ⟨.builtin .append, #[.tmp 70, .tmp 77], #[47, 47]⟩, none, false, [false, true, true, true], false⟩,
 ⟨some 66, .move (.tmp 5), none, false, [], false⟩,
 ⟨some 79, .nilCheck (.tmp 66), none, false, [], false⟩,
 ⟨some 80, .fieldAddr 186 (.tmp 79) 0, none, false, [], false⟩,
 ⟨none, .store 47 (.tmp 80) (.tmp 78), none, false, [], false⟩])
 (.seq
 (.reg false [
 ⟨some 81, .move (.tmp 5), none, false, [], false⟩,
 ⟨some 82, .move (.tmp 0), none, false, [], false⟩,
 ⟨some 83, .move (.tmp 6), none, false, [], false⟩,
 ⟨some 84, .indexAddr 154 (.tmp 82) (.tmp 83), none, false, [], false⟩,
 ⟨some 85, .load 184 (.tmp 84), none, false, [], false⟩,
 ⟨some 86, .nilCheck (.tmp 85), none, false, [], false⟩,
 ⟨some 87, .fieldAddr 186 (.tmp 86) 1, none, false, [], false⟩,
 ⟨some 88, .load 29 (.tmp 87), none, false, [], false⟩,
 ⟨some 89, .nilCheck (.tmp 81), none, false, [], false⟩,
 ⟨some 90, .fieldAddr 186 (.tmp 89) 1, none, false, [], false⟩,
 ⟨none, .store 29 (.tmp 90) (.tmp 88), none, false, [], false⟩])
 (.reg false [
 ⟨some 91, .move (.tmp 0), none, false, [], false⟩,
 ⟨some 92, .move (.tmp 6), none, false, [], false⟩,
 ⟨some 93, .indexAddr 154 (.tmp 91) (.tmp 92), none, false, [], false⟩,
 ⟨some 94, .load 184 (.tmp 93), none, false, [], false⟩,
 ⟨some 95, .nilCheck (.tmp 94), none, false, [], false⟩,
 ⟨some 96, .fieldAddr 186 (.tmp 95) 3, none, false, [], false⟩,
 ⟨none, .store 4 (.tmp 96) (.const (.bool true)), none, false, [], false⟩])))))))))))
 (.reg false [
 ⟨some 97, .binOp .add 3 (.tmp 26) (.const (.int .i64 1)) 3, none, false, [], false⟩,
 ⟨some 26, .move (.tmp 97), none, false, [], false⟩])))))))))
noncomputable def fi143 : FI := ⟨c143, 98, [], .plain⟩
noncomputable def c144 : XC :=
 (.seq
 (.reg false [
 ⟨some 2, .assign (.const (.slice none 0 0)), none, false, [], false⟩])
 (.seq
 (.reg false [
 ⟨some 12, .move (.tmp 0), none, false, [], false⟩,
 ⟨some 13, .call ⟨.builtin .len, #[.tmp 12], #[154]⟩, none, false, [], false⟩,
 ⟨some 14, .makeSlice 22 (.tmp 13) (.tmp 13), none, false, [], false⟩,
 ⟨some 3, .assign (.tmp 14), none, false, [], false⟩])
 (.seq
 (.reg false [
 ⟨some 4, .assign (.const (.slice none 0 0)), none, false, [], false⟩])
 (.seq
 (.seq
 (.reg false [
 ⟨some 15, .move (.tmp 0), none, false, [], false⟩,
 ⟨some 16, .call ⟨.builtin .len, #[.tmp 15], #[154]⟩, none, false, [], false⟩,
 ⟨some 17, .move (.const (.int .i64 0)), none, false, [], false⟩])
 (.block 0
 (.loop
 (.seq
 (.reg false [
 ⟨some 18, .binOp .lss 3 (.tmp 17) (.tmp 16) 3, none, false, [], false⟩])
 (.seq
 (.cond (.tmp 18)
 .skip
 (.exit 0))
 (.seq
 (.block 1
 (.seq
 (.reg false [
 ⟨some 19, .move (.tmp 17), none, false, [], false⟩,
 ⟨some 20, .indexAddr 154 (.tmp 15) (.tmp 17), none, false, [], false⟩,
 ⟨some 21, .load 184 (.tmp 20), none, false, [], false⟩,
 ⟨some 5, .assign (.tmp 19), none, false, [], false⟩,
 ⟨some 6, .assign (.tmp 21), none, false, [], false⟩])
 (.seq
 (.reg false [
 ⟨some 22, .move (.tmp 3), none, false, [], false⟩,
 ⟨some 23, .move (.tmp 5), none, false, [], false⟩,
 ⟨some 24, .move (.tmp 4), none, false, [], false⟩,
 ⟨some 25, .call ⟨.builtin .len, #[.tmp 24], #[153]⟩, none, false, [], false⟩,
 ⟨some 26, .indexAddr 22 (.tmp 22) (.tmp 23), none, false, [], false⟩,
 ⟨none, .store 3 (.tmp 26) (.tmp 25), none, false, [], false⟩])
 (.seq
 (.reg false [
 ⟨some 27, .move (.tmp 6), none, false, [], false⟩,
 ⟨some 28, .nilCheck (.tmp 27), none, false, [], false⟩,
 ⟨some 29, .fieldAddr 186 (.tmp 28) 3, none, false, [], false⟩,
 ⟨some 30, .load 4 (.tmp 29), none, false, [], false⟩,
 ⟨some 31, .unOp .not 4 (.tmp 30), none, false, [], false⟩])
 (.cond (.tmp 31)
 (.reg false [
 ⟨some 32, .move (.tmp 4), none, false, [], false⟩,
 ⟨some 33, .move (.tmp 6), none, false, [], false⟩,
 ⟨some 34, .buildSlice 153 1 #[(0, .tmp 33)], none, false, [], false⟩,
 ⟨some 35, .call ⟨.builtin .append, #[.tmp 32, .tmp 34], #[153, 153]⟩, none, false, [], false⟩,
 ⟨some 4, .assign (.tmp 35), none, false, [], false⟩])
 .skip)))))
 (.reg false [
 ⟨some 36, .binOp .add 3 (.tmp 17) (.const (.int .i64 1)) 3, none, false, [], false⟩,
 ⟨some 17, .move (.tmp 36), none, false, [], false⟩])))))))
 (.seq
 (.reg false [
 ⟨some 7, .assign (.const (.slice none 0 0)), none, false, [], false⟩])
 (.seq
 (.seq
 (.reg false [
 ⟨some 37, .move (.tmp 4), none, false, [], false⟩,
 ⟨some 38, .call ⟨.builtin .len, #[.tmp 37], #[153]⟩, none, false, [], false⟩,
 ⟨some 39, .move (.const (.int .i64 0)), none, false, [], false⟩])
 (.block 2
 (.loop
 (.seq
 (.reg false [
 ⟨some 40, .binOp .lss 3 (.tmp 39) (.tmp 38) 3, none, false, [], false⟩])
 (.seq
 (.cond (.tmp 40)
 .skip
 (.exit 2))
 (.seq
 (.block 3
 (.seq
 (.reg false [
 ⟨some 41, .indexAddr 153 (.tmp 37) (.tmp 39), none, false, [], false⟩,
 ⟨some 42, .load 184 (.tmp 41), none, false, [], false⟩,
 ⟨some 9, .assign (.tmp 42), none, false, [], false⟩])
 (.seq
 (.seq
 (.reg false [
 ⟨some 43, .move (.tmp 9), none, false, [], false⟩,
 ⟨some 44, .call ⟨.value (.func 182), #[.tmp 43], #[184]⟩, none, false, [], false⟩,
 ⟨some 45, .call ⟨.builtin .len, #[.tmp 44], #[187]⟩, none, false, [], false⟩,
 ⟨some 46, .move (.const (.int .i64 0)), none, false, [], false⟩])
 (.block 4
 (.loop
 (.seq
 (.reg false [
 ⟨some 47, .binOp .lss 3 (.tmp 46) (.tmp 45) 3, none, false, [], false⟩])
 (.seq
 (.cond (.tmp 47)
 .skip
 (.exit 4))
 (.seq
 (.block 5
 (.seq
 (.reg false [
 ⟨some 48, .indexAddr 187 (.tmp 44) (.tmp 46), none, false, [], false⟩,
 ⟨some 49, .load 124 (.tmp 48), none, false, [], false⟩,
 ⟨some 11, .assign (.tmp 49), none, false, [], false⟩])
 (.reg false [
 ⟨some 50, .move (.tmp 11), none, false, [], false⟩,
 ⟨some 51, .move (.tmp 3), none, false, [], false⟩,
 ⟨some 52, .move (.tmp 11), none, false, [], false⟩,
 ⟨some 53, .nilCheck (.tmp 52), none, false, [], false⟩,
 ⟨some 54, .load 3 (.tmp 53), none, false, [], false⟩,
 ⟨some 55, .indexAddr 22 (.tmp 51) (.tmp 54), none, false, [], false⟩,
 ⟨some 56, .load 3 (.tmp 55), none, false, [], false⟩,
 ⟨some 57, .nilCheck (.tmp 50), none, false, [], false⟩,
 ⟨none, .store 3 (.tmp 57) (.tmp 56), none, false, [], false⟩])))
 (.reg false [
 ⟨some 58, .binOp .add 3 (.tmp 46) (.const (.int .i64 1)) 3, none, false, [], false⟩,
 ⟨some 46, .move (.tmp 58), none, false, [], false⟩])))))))
 (.reg true [
 ⟨some 60, .move (.tmp 9), none, false, [], false⟩,
 ⟨some 61, .nilCheck (.tmp 60), none, false, [], false⟩,
 ⟨some 62, .fieldAddr 186 (.tmp 61) 0, none, false, [], false⟩,
 ⟨some 63, .load 47 (.tmp 62), none, false, [], false⟩,
 ⟨some 64, .move (.tmp 9), none, false, [], false⟩,
 ⟨some 65, .nilCheck (.tmp 64), none, false, [], false⟩,
 ⟨some 66, .fieldAddr 186 (.tmp 65) 1, none, false, [], false⟩,
 ⟨some 67, .load 29 (.tmp 66), none, false, [], false⟩,
 ⟨some 68, .build 49 #[(0, .tmp 63), (1, .tmp 67)], none, false, [], false⟩,
 ⟨some 69, .buildSlice 23 1 #[(0, .tmp 68)], none, false, [], false⟩,
 ⟨some 59, .move (.tmp 7), none, false, [], false⟩,
 ⟨some 70, .call ⟨.builtin .append, #[.tmp 59, .tmp 69], #[23, 23]⟩, none, false, [true], false⟩,
 ⟨some 7, .assign (.tmp 70), none, false, [], false⟩]))))
 (.reg false [
 ⟨some 71, .binOp .add 3 (.tmp 39) (.const (.int .i64 1)) 3, none, false, [], false⟩,
 ⟨some 39, .move (.tmp 71), none, false, [], false⟩])))))))
 (.seq
 (.reg false [
 ⟨some 72, .move (.tmp 7), none, false, [], false⟩,
 ⟨some 2, .assign (.tmp 72), none, false, [], false⟩])
 .ret)))))))
noncomputable def fi144 : FI := ⟨c144, 73, [.tmp 2], .plain⟩
noncomputable def c145 : XC :=
 (.seq
 (.reg false [
 ⟨some 4, .assign (.const (.bool false)), none, false, [], false⟩])
 (.seq
 (.reg false [
 ⟨some 5, .move (.tmp 0), none, false, [], false⟩,
 ⟨some 6, .move (.tmp 1), none, false, [], false⟩,
 ⟨some 7, .call ⟨.value (.func 184), #[.tmp 5, .tmp 6, .func 185], #[23, 23, 171]⟩, none, false, [], false⟩,
 ⟨some 4, .assign (.tmp 7), none, false, [], false⟩])
 .ret))
noncomputable def fi145 : FI := ⟨c145, 8, [.tmp 4], .plain⟩
noncomputable def c146 : XC :=
 (.seq
 (.reg false [
 ⟨some 2, .assign (.const (.slice none 0 0)), none, false, [], false⟩])
 (.seq
 (.reg false [
 ⟨some 11, .move (.tmp 0), none, false, [], false⟩,
 ⟨some 12, .call ⟨.value (.func 186), #[.tmp 11], #[23]⟩, none, false, [], false⟩,
 ⟨some 3, .assign (.tmp 12), none, false, [], false⟩])
 (.seq
 (.reg false [
 ⟨some 13, .move (.tmp 3), none, false, [], false⟩,
 ⟨some 14, .move (.tmp 3), none, false, [], false⟩,
 ⟨some 15, .call ⟨.value (.func 188), #[.tmp 14], #[23]⟩, none, false, [], false⟩,
 ⟨some 16, .call ⟨.value (.func 187), #[.tmp 13, .tmp 15], #[23, 56]⟩, none, false, [], false⟩,
 ⟨some 4, .assign (.tmp 16), none, false, [], false⟩])
 (.seq
 (.reg false [
 ⟨some 17, .move (.tmp 3), none, false, [], false⟩,
 ⟨some 18, .call ⟨.builtin .len, #[.tmp 17], #[23]⟩, none, false, [], false⟩,
 ⟨some 19, .makeSlice 22 (.tmp 18) (.tmp 18), none, false, [], false⟩,
 ⟨some 5, .assign (.tmp 19), none, false, [], false⟩])
 (.seq
 (.reg false [
 ⟨some 6, .assign (.const (.int .i64 0)), none, false, [], false⟩])
 (.seq
 (.seq
 (.reg false [
 ⟨some 7, .assign (.const (.int .i64 0)), none, false, [], false⟩])
 (.block 0
 (.loop
 (.seq
 (.seq
 (.reg false [
 ⟨some 20, .move (.tmp 7), none, false, [], false⟩,
 ⟨some 21, .move (.tmp 3), none, false, [], false⟩,
 ⟨some 22, .call ⟨.builtin .len, #[.tmp 21], #[23]⟩, none, false, [], false⟩,
 ⟨some 23, .binOp .lss 3 (.tmp 20) (.tmp 22) 3, none, false, [], false⟩])
 (.cond (.tmp 23)
 .skip
 (.exit 0)))
 (.seq
 (.block 1
 (.seq
 (.reg false [
 ⟨some 26, .move (.tmp 5), none, false, [], false⟩,
 ⟨some 27, .move (.tmp 7), none, false, [], false⟩,
 ⟨some 28, .move (.tmp 6), none, false, [], false⟩,
 ⟨some 29, .indexAddr 22 (.tmp 26) (.tmp 27), none, false, [], false⟩,
 ⟨none, .store 3 (.tmp 29) (.tmp 28), none, false, [], false⟩])
 (.seq
 (.reg false [
 ⟨some 30, .move (.tmp 4), none, false, [], false⟩,
 ⟨some 31, .move (.tmp 7), none, false, [], false⟩,
 ⟨some 32, .indexAddr 56 (.tmp 30) (.tmp 31), none, false, [], false⟩,
 ⟨some 33, .load 4 (.tmp 32), none, false, [], false⟩])
 (.cond (.tmp 33)
 (.reg false [
 ⟨some 34, .move (.tmp 6), none, false, [], false⟩,
 ⟨some 35, .binOp .add 3 (.tmp 34) (.const (.int .i64 1)) 3, none, false, [], false⟩,
 ⟨some 6, .assign (.tmp 35), none, false, [], false⟩])
 .skip))))
 (.reg false [
 ⟨some 24, .move (.tmp 7), none, false, [], false⟩,
 ⟨some 25, .binOp .add 3 (.tmp 24) (.const (.int .i64 1)) 3, none, false, [], false⟩,
 ⟨some 7, .assign (.tmp 25), none, false, [], false⟩]))))))
 (.seq
 (.reg false [
 ⟨some 8, .assign (.const (.slice none 0 0)), none, false, [], false⟩])
 (.seq
 (.seq
 (.reg false [
 ⟨some 9, .assign (.const (.int .i64 0)), none, false, [], false⟩])
 (.block 2
 (.loop
 (.seq
 (.seq
 (.reg false [
 ⟨some 36, .move (.tmp 9), none, false, [], false⟩,
 ⟨some 37, .move (.tmp 3), none, false, [], false⟩,
 ⟨some 38, .call ⟨.builtin .len, #[.tmp 37], #[23]⟩, none, false, [], false⟩,
 ⟨some 39, .binOp .lss 3 (.tmp 36) (.tmp 38) 3, none, false, [], false⟩])
 (.cond (.tmp 39)
 .skip
 (.exit 2)))
 (.seq
 (.block 3
 (.seq
 (.reg false [
 ⟨some 42, .move (.tmp 3), none, false, [], false⟩,
 ⟨some 43, .move (.tmp 9), none, false, [], false⟩,
 ⟨some 44, .indexAddr 23 (.tmp 42) (.tmp 43), none, false, [], false⟩,
 ⟨some 45, .load 49 (.tmp 44), none, false, [], false⟩,
 ⟨some 10, .alloc 49, none, false, [], false⟩,
 ⟨none, .store 49 (.tmp 10) (.tmp 45), none, false, [], false⟩])
 (.seq
 (.seq
 (.reg false [
 ⟨some 46, .move (.tmp 4), none, false, [], false⟩,
 ⟨some 47, .move (.tmp 9), none, false, [], false⟩,
 ⟨some 48, .indexAddr 56 (.tmp 46) (.tmp 47), none, false, [], false⟩,
 ⟨some 49, .load 4 (.tmp 48), none, false, [], false⟩,
 ⟨some 50, .unOp .not 4 (.tmp 49), none, false, [], false⟩])
 (.cond (.tmp 50)
 (.exit 3)
 .skip))
 (.seq
 (.seq
 (.reg false [
 ⟨some 51, .fieldAddr 49 (.tmp 10) 1, none, false, [], false⟩,
 ⟨some 52, .fieldAddr 29 (.tmp 51) 0, none, false, [], false⟩,
 ⟨some 53, .load 3 (.tmp 52), none, false, [], false⟩,
 ⟨some 54, .binOp .neq 3 (.tmp 53) (.const (.int .i64 3)) 3, none, false, [], false⟩])
 (.cond (.tmp 54)
 (.reg false [
 ⟨some 55, .move (.tmp 5), none, false, [], false⟩,
 ⟨some 56, .fieldAddr 49 (.tmp 10) 1, none, false, [], false⟩,
 ⟨some 57, .fieldAddr 29 (.tmp 56) 2, none, false, [], false⟩,
 ⟨some 58, .load 3 (.tmp 57), none, false, [], false⟩,
 ⟨some 59, .indexAddr 22 (.tmp 55) (.tmp 58), none, false, [], false⟩,
 ⟨some 60, .load 3 (.tmp 59), none, false, [], false⟩,
 ⟨some 61, .fieldAddr 49 (.tmp 10) 1, none, false, [], false⟩,
 ⟨some 62, .fieldAddr 29 (.tmp 61) 2, none, false, [], false⟩,
 ⟨none, .store 3 (.tmp 62) (.tmp 60), none, false, [], false⟩])
 .skip))
 (.seq
 (.seq
 (.reg false [
 ⟨some 63, .fieldAddr 49 (.tmp 10) 1, none, false, [], false⟩,
 ⟨some 64, .fieldAddr 29 (.tmp 63) 0, none, false, [], false⟩,
 ⟨some 65, .load 3 (.tmp 64), none, false, [], false⟩,
 ⟨some 66, .binOp .eql 3 (.tmp 65) (.const (.int .i64 2)) 3, none, false, [], false⟩])
 (.cond (.tmp 66)
 (.reg false [
 ⟨some 67, .move (.tmp 5), none, false, [], false⟩,
 ⟨some 68, .fieldAddr 49 (.tmp 10) 1, none, false, [], false⟩,
 ⟨some 69, .fieldAddr 29 (.tmp 68) 3, none, false, [], false⟩,
 ⟨some 70, .load 3 (.tmp 69), none, false, [], false⟩,
 ⟨some 71, .indexAddr 22 (.tmp 67) (.tmp 70), none, false, [], false⟩,
 ⟨some 72, .load 3 (.tmp 71), none, false, [], false⟩,
 ⟨some 73, .fieldAddr 49 (.tmp 10) 1, none, false, [], false⟩,
 ⟨some 74, .fieldAddr 29 (.tmp 73) 3, none, false, [], false⟩,
 ⟨none, .store 3 (.tmp 74) (.tmp 72), none, false, [], false⟩])
 .skip))
 (.reg false [
 ⟨some 75, .move (.tmp 8), none, false, [], false⟩,
 ⟨some 76, .load 49 (.tmp 10), none, false, [], false⟩,
 ⟨some 77, .buildSlice 23 1 #[(0, .tmp 76)], none, false, [], false⟩,
 ⟨some 78, .call ⟨.builtin .append, #[.tmp 75, .tmp 77], #[23, 23]⟩, none, false, [], false⟩,
 ⟨some 8, .assign (.tmp 78), none, false, [], false⟩]))))))
 (.reg false [
 ⟨some 40, .move (.tmp 9), none, false, [], false⟩,
 ⟨some 41, .binOp .add 3 (.tmp 40) (.const (.int .i64 1)) 3, none, false, [], false⟩,
 ⟨some 9, .assign (.tmp 41), none, false, [], false⟩]))))))
 (.seq
 (.reg false [
 ⟨some 79, .move (.tmp 8), none, false, [], false⟩,
 ⟨some 2, .assign (.tmp 79), none, false, [], false⟩])
 .ret)))))))))
noncomputable def fi146 : FI := ⟨c146, 80, [.tmp 2], .plain⟩
noncomputable def c147 : XC :=
 (.seq
 (.reg false [
 ⟨some 2, .assign (.const (.slice none 0 0)), none, false, [], false⟩])
 (.seq
 (.reg false [
 ⟨some 3, .assign (.const (.slice none 0 0)), none, false, [], false⟩])
 (.seq
 (.seq
 (.reg false [
 ⟨some 4, .assign (.const (.int .i64 0)), none, false, [], false⟩])
 (.block 0
 (.loop
 (.seq
 (.seq
 (.reg false [
 ⟨some 5, .move (.tmp 4), none, false, [], false⟩,
 ⟨some 6, .move (.tmp 0), none, false, [], false⟩,
 ⟨some 7, .call ⟨.builtin .len, #[.tmp 6], #[47]⟩, none, false, [], false⟩,
 ⟨some 8, .binOp .lss 3 (.tmp 5) (.tmp 7) 3, none, false, [], false⟩])
 (.cond (.tmp 8)
 .skip
 (.exit 0)))
 (.seq
 (.block 1
 (.reg false [
 ⟨some 11, .move (.tmp 3), none, false, [], false⟩,
 ⟨some 12, .move (.tmp 0), none, false, [], false⟩,
 ⟨some 13, .move (.tmp 4), none, false, [], false⟩,
 ⟨some 14, .indexAddr 47 (.tmp 12) (.tmp 13), none, false, [], false⟩,
 ⟨some 15, .load 46 (.tmp 14), none, false, [], false⟩,
 ⟨some 16, .call ⟨.value (.func 189), #[.tmp 15], #[46]⟩, none, false, [], false⟩,
 ⟨some 17, .buildSlice 47 1 #[(0, .tmp 16)], none, false, [], false⟩,
 ⟨some 18, .call ⟨.builtin .append, #[.tmp 11, .tmp 17], #[47, 47]⟩, none, false, [], false⟩,
 ⟨some 3, .assign (.tmp 18), none, false, [], false⟩]))
 (.reg false [
 ⟨some 9, .move (.tmp 4), none, false, [], false⟩,
 ⟨some 10, .binOp .add 3 (.tmp 9) (.const (.int .i64 1)) 3, none, false, [], false⟩,
 ⟨some 4, .assign (.tmp 10), none, false, [], false⟩]))))))
 (.seq
 (.reg false [
 ⟨some 19, .move (.tmp 3), none, false, [], false⟩,
 ⟨some 2, .assign (.tmp 19), none, false, [], false⟩])
 .ret))))
noncomputable def fi147 : FI := ⟨c147, 20, [.tmp 2], .plain⟩
noncomputable def c154 : XC :=
 (.seq
 (.reg false [
 ⟨some 2, .move (.tmp 0), none, false, [], false⟩,
 ⟨some 3, .binOp .neq 3 (.tmp 2) (.const (.int .i64 0)) 3, none, false, [], false⟩])
 (.cond (.tmp 3)
 (.reg false [
 ⟨some 4, .move (.tmp 0), none, false, [], false⟩,
 ⟨some 5, .build 118 #[(0, .const (.int .i64 2)), (1, .tmp 4)], none, false, [], false⟩,
 ⟨some 6, .makeInterface 118 (.tmp 5), none, false, [], false⟩,
 ⟨none, .panic (.tmp 6), none, false, [], false⟩])
 .skip))
noncomputable def fi154 : FI := ⟨c154, 7, [], .plain⟩
noncomputable def c155 : XC :=
 (.seq
 (.seq
 (.reg false [
 ⟨some 2, .move (.tmp 0), none, false, [], false⟩,
 ⟨some 3, .nilCheck (.tmp 2), none, false, [], false⟩,
 ⟨some 4, .fieldAddr 116 (.tmp 3) 2, none, false, [], false⟩,
 ⟨some 5, .load 3 (.tmp 4), none, false, [], false⟩,
 ⟨some 6, .binOp .lss 3 (.tmp 5) (.const (.int .i64 1)) 3, none, false, [], false⟩])
 (.cond (.tmp 6)
 (.reg false [
 ⟨some 7, .build 118 #[(0, .const (.int .i64 3)), (1, .const (.int .i64 0))], none, false, [], false⟩,
 ⟨some 8, .makeInterface 118 (.tmp 7), none, false, [], false⟩,
 ⟨none, .panic (.tmp 8), none, false, [], false⟩])
 .skip))
 (.reg false [
 ⟨some 9, .move (.tmp 0), none, false, [], false⟩,
 ⟨some 10, .nilCheck (.tmp 9), none, false, [], false⟩,
 ⟨some 11, .fieldAddr 116 (.tmp 10) 2, none, false, [], false⟩,
 ⟨some 12, .load 3 (.tmp 11), none, false, [], false⟩,
 ⟨some 13, .binOp .sub 3 (.tmp 12) (.const (.int .i64 1)) 3, none, false, [], false⟩,
 ⟨some 14, .nilCheck (.tmp 9), none, false, [], false⟩,
 ⟨some 15, .fieldAddr 116 (.tmp 14) 2, none, false, [], false⟩,
 ⟨none, .store 3 (.tmp 15) (.tmp 13), none, false, [], false⟩]))
noncomputable def fi155 : FI := ⟨c155, 16, [], .plain⟩
noncomputable def c156 : XC :=
 (.seq
 (.reg false [
 ⟨some 4, .box 46 (.tmp 1), none, false, [], false⟩])
 (.seq
 (.reg false [
 ⟨some 6, .assign (.const (.slice none 0 0)), none, false, [], false⟩])
 (.seq
 (.seq
 (.reg false [
 ⟨some 10, .fieldAddr 46 (.tmp 4) 7, none, false, [], false⟩,
 ⟨some 11, .load 22 (.tmp 10), none, false, [], false⟩,
 ⟨some 12, .call ⟨.builtin .len, #[.tmp 11], #[22]⟩, none, false, [], false⟩,
 ⟨some 13, .move (.const (.int .i64 0)), none, false, [], false⟩])
 (.block 0
 (.loop
 (.seq
 (.reg false [
 ⟨some 14, .binOp .lss 3 (.tmp 13) (.tmp 12) 3, none, false, [], false⟩])
 (.seq
 (.cond (.tmp 14)
 .skip
 (.exit 0))
 (.seq
 (.block 1
 (.seq
 (.reg false [
 ⟨some 15, .indexAddr 22 (.tmp 11) (.tmp 13), none, false, [], false⟩,
 ⟨some 16, .load 3 (.tmp 15), none, false, [], false⟩,
 ⟨some 8, .assign (.tmp 16), none, false, [], false⟩])
 (.reg false [
 ⟨some 17, .move (.tmp 6), none, false, [], false⟩,
 ⟨some 18, .move (.tmp 2), none, false, [], false⟩,
 ⟨some 19, .move (.tmp 8), none, false, [], false⟩,
 ⟨some 20, .indexAddr 22 (.tmp 18) (.tmp 19), none, false, [], false⟩,
 ⟨some 21, .load 3 (.tmp 20), none, false, [], false⟩,
 ⟨some 22, .buildSlice 22 1 #[(0, .tmp 21)], none, false, [], false⟩,
 ⟨some 23, .call ⟨.builtin .append, #[.tmp 17, .tmp 22], #[22, 22]⟩, none, false, [], false⟩,
 ⟨some 6, .assign (.tmp 23), none, false, [], false⟩])))
 (.reg false [
 ⟨some 24, .binOp .add 3 (.tmp 13) (.const (.int .i64 1)) 3, none, false, [], false⟩,
 ⟨some 13, .move (.tmp 24), none, false, [], false⟩])))))))
 (.seq
 (.reg false [
 ⟨some 25, .move (.tmp 0), none, false, [], false⟩,
 ⟨some 26, .fieldAddr 46 (.tmp 4) 5, none, false, [], false⟩,
 ⟨some 27, .load 3 (.tmp 26), none, false, [], false⟩,
 ⟨some 28, .move (.tmp 6), none, false, [], false⟩,
 ⟨some 29, .call ⟨.value (.func 101), #[.tmp 25, .tmp 27, .tmp 28], #[114, 3, 22]⟩, none, false, [], false⟩,
 ⟨some 9, .assign (.tmp 29), none, false, [], false⟩])
 (.seq
 (.reg false [
 ⟨some 30, .fieldAddr 46 (.tmp 4) 2, none, false, [], false⟩,
 ⟨some 31, .load 3 (.tmp 30), none, false, [], false⟩,
 ⟨some 32, .binOp .geq 3 (.tmp 31) (.const (.int .i64 0)) 3, none, false, [], false⟩])
 (.cond (.tmp 32)
 (.reg false [
 ⟨some 33, .move (.tmp 2), none, false, [], false⟩,
 ⟨some 34, .fieldAddr 46 (.tmp 4) 2, none, false, [], false⟩,
 ⟨some 35, .load 3 (.tmp 34), none, false, [], false⟩,
 ⟨some 36, .move (.tmp 9), none, false, [], false⟩,
 ⟨some 37, .indexAddr 22 (.tmp 33) (.tmp 35), none, false, [], false⟩,
 ⟨none, .store 3 (.tmp 37) (.tmp 36), none, false, [], false⟩])
 .skip))))))
noncomputable def fi156 : FI := ⟨c156, 38, [], .plain⟩
noncomputable def c157 : XC :=
 (.seq
 (.reg false [
 ⟨some 4, .box 46 (.tmp 1), none, false, [], false⟩])
 (.seq
 (.reg false [
 ⟨some 8, .fieldAddr 46 (.tmp 4) 0, none, false, [], false⟩,
 ⟨some 9, .load 3 (.tmp 8), none, false, [], false⟩])
 (.block 0
 (.seq
 (.reg false [
 ⟨some 11, .binOp .eql 3 (.tmp 9) (.const (.int .i64 1)) 3, none, false, [], false⟩,
 ⟨some 10, .assign (.tmp 11), none, false, [], false⟩])
 (.cond (.tmp 10)
 (.reg false [
 ⟨some 12, .move (.tmp 2), none, false, [], false⟩,
 ⟨some 13, .fieldAddr 46 (.tmp 4) 2, none, false, [], false⟩,
 ⟨some 14, .load 3 (.tmp 13), none, false, [], false⟩,
 ⟨some 15, .fieldAddr 46 (.tmp 4) 5, none, false, [], false⟩,
 ⟨some 16, .load 3 (.tmp 15), none, false, [], false⟩,
 ⟨some 17, .indexAddr 22 (.tmp 12) (.tmp 14), none, false, [], false⟩,
 ⟨none, .store 3 (.tmp 17) (.tmp 16), none, false, [], false⟩])
 (.seq
 (.reg false [
 ⟨some 19, .binOp .eql 3 (.tmp 9) (.const (.int .i64 2)) 3, none, false, [], false⟩,
 ⟨some 18, .assign (.tmp 19), none, false, [], false⟩])
 (.cond (.tmp 18)
 (.reg true [
 ⟨some 20, .move (.tmp 2), none, false, [], false⟩,
 ⟨some 21, .fieldAddr 46 (.tmp 4) 2, none, false, [], false⟩,
 ⟨some 22, .load 3 (.tmp 21), none, false, [], false⟩,
 ⟨some 23, .move (.tmp 2), none, false, [], false⟩,
 ⟨some 24, .fieldAddr 46 (.tmp 4) 3, none, false, [], false⟩,
 ⟨some 25, .load 3 (.tmp 24), none, false, [], false⟩,
 ⟨some 26, .indexAddr 22 (.tmp 23) (.tmp 25), none, false, [], false⟩,
 ⟨some 27, .load 3 (.tmp 26), none, false, [], false⟩,
 ⟨some 28, .indexAddr 22 (.tmp 20) (.tmp 22), none, false, [], false⟩,
 ⟨none, .store 3 (.tmp 28) (.tmp 27), none, false, [], false⟩])
 (.seq
 (.reg false [
 ⟨some 30, .binOp .eql 3 (.tmp 9) (.const (.int .i64 3)) 3, none, false, [], false⟩,
 ⟨some 29, .assign (.tmp 30), none, false, [], false⟩])
 (.cond (.tmp 29)
 (.seq
 (.reg true [
 ⟨some 32, .fieldAddr 46 (.tmp 4) 1, none, false, [], false⟩,
 ⟨some 33, .load 3 (.tmp 32), none, false, [], false⟩,
 ⟨some 34, .fieldAddr 46 (.tmp 4) 6, none, false, [], false⟩,
 ⟨some 35, .load 9 (.tmp 34), none, false, [], false⟩,
 ⟨some 36, .move (.tmp 2), none, false, [], false⟩,
 ⟨some 37, .fieldAddr 46 (.tmp 4) 3, none, false, [], false⟩,
 ⟨some 38, .load 3 (.tmp 37), none, false, [], false⟩,
 ⟨some 39, .indexAddr 22 (.tmp 36) (.tmp 38), none, false, [], false⟩,
 ⟨some 40, .load 3 (.tmp 39), none, false, [], false⟩,
 ⟨some 41, .move (.tmp 2), none, false, [], false⟩,
 ⟨some 42, .fieldAddr 46 (.tmp 4) 4, none, false, [], false⟩,
 ⟨some 43, .load 3 (.tmp 42), none, false, [], false⟩,
 ⟨some 44, .indexAddr 22 (.tmp 41) (.tmp 43), none, false, [], false⟩,
 ⟨some 45, .load 3 (.tmp 44), none, false, [], false⟩,
 ⟨some 46, .call ⟨.value (.func 194), #[.tmp 33, .tmp 35, .tmp 40, .tmp 45], #[3, 9, 3, 3]⟩, none, false, [true, true, true, true, true], false⟩,
 ⟨some 31, .move (.tmp 46), none, false, [], false⟩,
 ⟨some 47, .extract (.tmp 31) 0, none, false, [], false⟩,
 ⟨some 48, .extract (.tmp 31) 1, none, false, [], false⟩,
 ⟨some 6, .assign (.tmp 47), none, false, [], false⟩,
 ⟨some 7, .assign (.tmp 48), none, false, [], false⟩])
 (.seq
 (.reg false [
 ⟨some 49, .move (.tmp 7), none, false, [], false⟩,
 ⟨some 50, .call ⟨.value (.func 154), #[.tmp 49], #[3]⟩, none, false, [], false⟩])
 (.reg false [
 ⟨some 51, .move (.tmp 2), none, false, [], false⟩,
 ⟨some 52, .fieldAddr 46 (.tmp 4) 2, none, false, [], false⟩,
 ⟨some 53, .load 3 (.tmp 52), none, false, [], false⟩,
 ⟨some 54, .move (.tmp 6), none, false, [], false⟩,
 ⟨some 55, .indexAddr 22 (.tmp 51) (.tmp 53), none, false, [], false⟩,
 ⟨none, .store 3 (.tmp 55) (.tmp 54), none, false, [], false⟩])))
 (.seq
 (.reg false [
 ⟨some 57, .binOp .eql 3 (.tmp 9) (.const (.int .i64 4)) 3, none, false, [], false⟩,
 ⟨some 56, .assign (.tmp 57), none, false, [], false⟩])
 (.cond (.tmp 56)
 (.reg true [
 ⟨some 61, .fieldAddr 46 (.tmp 4) 1, none, false, [], false⟩,
 ⟨some 62, .load 3 (.tmp 61), none, false, [], false⟩,
 ⟨some 63, .move (.tmp 2), none, false, [], false⟩,
 ⟨some 64, .fieldAddr 46 (.tmp 4) 3, none, false, [], false⟩,
 ⟨some 65, .load 3 (.tmp 64), none, false, [], false⟩,
 ⟨some 66, .indexAddr 22 (.tmp 63) (.tmp 65), none, false, [], false⟩,
 ⟨some 67, .load 3 (.tmp 66), none, false, [], false⟩,
 ⟨some 68, .call ⟨.value (.func 195), #[.tmp 62, .tmp 67], #[3, 3]⟩, none, true, [false, false, false, true, true], false⟩,
 ⟨some 58, .move (.tmp 2), none, false, [], false⟩,
 ⟨some 59, .fieldAddr 46 (.tmp 4) 2, none, false, [], false⟩,
 ⟨some 60, .load 3 (.tmp 59), none, false, [], true⟩,
 ⟨some 69, .indexAddr 22 (.tmp 58) (.tmp 60), none, false, [], false⟩,
 ⟨none, .store 3 (.tmp 69) (.tmp 68), none, false, [], false⟩])
 (.seq
 (.reg false [
 ⟨some 71, .binOp .eql 3 (.tmp 9) (.const (.int .i64 5)) 3, none, false, [], false⟩,
 ⟨some 70, .assign (.tmp 71), none, false, [], false⟩])
 (.cond (.tmp 70)
 (.reg true [
 ⟨some 75, .move (.tmp 0), none, false, [], false⟩,
 ⟨some 76, .fieldAddr 46 (.tmp 4) 5, none, false, [], false⟩,
 ⟨some 77, .load 3 (.tmp 76), none, false, [], false⟩,
 ⟨some 78, .move (.tmp 2), none, false, [], false⟩,
 ⟨some 79, .fieldAddr 46 (.tmp 4) 3, none, false, [], false⟩,
 ⟨some 80, .load 3 (.tmp 79), none, false, [], false⟩,
 ⟨some 81, .indexAddr 22 (.tmp 78) (.tmp 80), none, false, [], false⟩,
 ⟨some 82, .load 3 (.tmp 81), none, false, [], false⟩,
 ⟨some 83, .call ⟨.value (.func 196), #[.tmp 75, .tmp 77, .tmp 82], #[114, 3, 3]⟩, none, true, [false, false, false, true, true, true, true], false⟩,
 ⟨some 72, .move (.tmp 2), none, false, [], false⟩,
 ⟨some 73, .fieldAddr 46 (.tmp 4) 2, none, false, [], false⟩,
 ⟨some 74, .load 3 (.tmp 73), none, false, [], true⟩,
 ⟨some 84, .nilCheck (.tmp 83), none, false, [], false⟩,
 ⟨some 85, .load 3 (.tmp 84), none, false, [], false⟩,
 ⟨some 86, .indexAddr 22 (.tmp 72) (.tmp 74), none, false, [], false⟩,
 ⟨none, .store 3 (.tmp 86) (.tmp 85), none, false, [], false⟩])
 (.seq
 (.reg false [
 ⟨some 88, .binOp .eql 3 (.tmp 9) (.const (.int .i64 6)) 3, none, false, [], false⟩,
 ⟨some 87, .assign (.tmp 88), none, false, [], false⟩])
 (.cond (.tmp 87)
 (.reg true [
 ⟨some 89, .move (.tmp 0), none, false, [], false⟩,
 ⟨some 90, .fieldAddr 46 (.tmp 4) 5, none, false, [], false⟩,
 ⟨some 91, .load 3 (.tmp 90), none, false, [], false⟩,
 ⟨some 92, .move (.tmp 2), none, false, [], false⟩,
 ⟨some 93, .fieldAddr 46 (.tmp 4) 3, none, false, [], false⟩,
 ⟨some 94, .load 3 (.tmp 93), none, false, [], false⟩,
 ⟨some 95, .indexAddr 22 (.tmp 92) (.tmp 94), none, false, [], false⟩,
 ⟨some 96, .load 3 (.tmp 95), none, false, [], false⟩,
 ⟨some 97, .call ⟨.value (.func 196), #[.tmp 89, .tmp 91, .tmp 96], #[114, 3, 3]⟩, none, true, [false, false, false, false, false, false, false, false, false, false, false, false, false, false, false, true, true, true], false⟩,
 ⟨some 98, .move (.tmp 0), none, false, [], false⟩,
 ⟨some 99, .nilCheck (.tmp 98), none, false, [], false⟩,
 ⟨some 100, .fieldAddr 116 (.tmp 99) 0, none, false, [], false⟩,
 ⟨some 101, .fieldAddr 36 (.tmp 100) 0, none, false, [], false⟩,
 ⟨some 102, .load 34 (.tmp 101), none, false, [], true⟩,
 ⟨some 103, .fieldAddr 46 (.tmp 4) 5, none, false, [], false⟩,
 ⟨some 104, .load 3 (.tmp 103), none, false, [], true⟩,
 ⟨some 105, .indexAddr 34 (.tmp 102) (.tmp 104), none, false, [], false⟩,
 ⟨some 106, .fieldAddr 105 (.tmp 105) 1, none, false, [], false⟩,
 ⟨some 107, .load 3 (.tmp 106), none, false, [], true⟩,
 ⟨some 108, .move (.tmp 2), none, false, [], false⟩,
 ⟨some 109, .fieldAddr 46 (.tmp 4) 4, none, false, [], false⟩,
 ⟨some 110, .load 3 (.tmp 109), none, false, [], true⟩,
 ⟨some 111, .indexAddr 22 (.tmp 108) (.tmp 110), none, false, [], false⟩,
 ⟨some 112, .load 3 (.tmp 111), none, false, [], true⟩,
 ⟨some 113, .call ⟨.value (.func 195), #[.tmp 107, .tmp 112], #[3, 3]⟩, none, false, [true, true], false⟩,
 ⟨some 114, .nilCheck (.tmp 97), none, false, [], false⟩,
 ⟨none, .store 3 (.tmp 114) (.tmp 113), none, false, [], false⟩])
 (.seq
 (.reg false [
 ⟨some 116, .binOp .eql 3 (.tmp 9) (.const (.int .i64 7)) 3, none, false, [], false⟩,
 ⟨some 115, .assign (.tmp 116), none, false, [], false⟩])
 (.cond (.tmp 115)
 (.reg true [
 ⟨some 117, .move (.tmp 2), none, false, [], false⟩,
 ⟨some 118, .fieldAddr 46 (.tmp 4) 2, none, false, [], false⟩,
 ⟨some 119, .load 3 (.tmp 118), none, false, [], false⟩,
 ⟨some 120, .move (.tmp 0), none, false, [], false⟩,
 ⟨some 121, .nilCheck (.tmp 120), none, false, [], false⟩,
 ⟨some 122, .fieldAddr 116 (.tmp 121) 3, none, false, [], false⟩,
 ⟨some 123, .load 87 (.tmp 122), none, false, [], false⟩,
 ⟨some 124, .fieldAddr 46 (.tmp 4) 5, none, false, [], false⟩,
 ⟨some 125, .load 3 (.tmp 124), none, false, [], false⟩,
 ⟨some 126, .indexAddr 87 (.tmp 123) (.tmp 125), none, false, [], false⟩,
 ⟨some 127, .load 22 (.tmp 126), none, false, [], false⟩,
 ⟨some 128, .indexAddr 22 (.tmp 127) (.const (.int .i64 0)), none, false, [], false⟩,
 ⟨some 129, .load 3 (.tmp 128), none, false, [], false⟩,
 ⟨some 130, .indexAddr 22 (.tmp 117) (.tmp 119), none, false, [], false⟩,
 ⟨none, .store 3 (.tmp 130) (.tmp 129), none, false, [], false⟩])
 (.seq
 (.reg false [
 ⟨some 132, .binOp .eql 3 (.tmp 9) (.const (.int .i64 8)) 3, none, false, [], false⟩,
 ⟨some 131, .assign (.tmp 132), none, false, [], false⟩])
 (.cond (.tmp 131)
 (.reg true [
 ⟨some 133, .move (.tmp 0), none, false, [], false⟩,
 ⟨some 134, .nilCheck (.tmp 133), none, false, [], false⟩,
 ⟨some 135, .fieldAddr 116 (.tmp 134) 3, none, false, [], false⟩,
 ⟨some 136, .load 87 (.tmp 135), none, false, [], false⟩,
 ⟨some 137, .fieldAddr 46 (.tmp 4) 5, none, false, [], false⟩,
 ⟨some 138, .load 3 (.tmp 137), none, false, [], false⟩,
 ⟨some 139, .indexAddr 87 (.tmp 136) (.tmp 138), none, false, [], false⟩,
 ⟨some 140, .load 22 (.tmp 139), none, false, [], false⟩,
 ⟨some 141, .move (.tmp 2), none, false, [], false⟩,
 ⟨some 142, .fieldAddr 46 (.tmp 4) 3, none, false, [], false⟩,
 ⟨some 143, .load 3 (.tmp 142), none, false, [], false⟩,
 ⟨some 144, .indexAddr 22 (.tmp 141) (.tmp 143), none, false, [], false⟩,
 ⟨some 145, .load 3 (.tmp 144), none, false, [], false⟩,
 ⟨some 146, .indexAddr 22 (.tmp 140) (.const (.int .i64 0)), none, false, [], false⟩,
 ⟨none, .store 3 (.tmp 146) (.tmp 145), none, false, [], false⟩])
 (.seq
 (.reg false [
 ⟨some 148, .binOp .eql 3 (.tmp 9) (.const (.int .i64 10)) 3, none, false, [], false⟩,
 ⟨some 147, .assign (.tmp 148), none, false, [], false⟩])
 (.cond (.tmp 147)
 (.reg true [
 ⟨some 152, .move (.tmp 0), none, false, [], false⟩,
 ⟨some 153, .call ⟨.value (.func 197), #[.tmp 152], #[114]⟩, none, true, [false, false, false, true, true], false⟩,
 ⟨some 149, .move (.tmp 2), none, false, [], false⟩,
 ⟨some 150, .fieldAddr 46 (.tmp 4) 2, none, false, [], false⟩,
 ⟨some 151, .load 3 (.tmp 150), none, false, [], true⟩,
 ⟨some 154, .indexAddr 22 (.tmp 149) (.tmp 151), none, false, [], false⟩,
 ⟨none, .store 3 (.tmp 154) (.tmp 153), none, false, [], false⟩])
 (.seq
 (.reg false [
 ⟨some 156, .binOp .eql 3 (.tmp 9) (.const (.int .i64 11)) 3, none, false, [], false⟩,
 ⟨some 155, .assign (.tmp 156), none, false, [], false⟩])
 (.cond (.tmp 155)
 (.reg true [
 ⟨some 163, .move (.tmp 2), none, false, [], false⟩,
 ⟨some 164, .fieldAddr 46 (.tmp 4) 3, none, false, [], false⟩,
 ⟨some 165, .load 3 (.tmp 164), none, false, [], false⟩,
 ⟨some 166, .indexAddr 22 (.tmp 163) (.tmp 165), none, false, [], false⟩,
 ⟨some 167, .load 3 (.tmp 166), none, false, [], false⟩,
 ⟨some 168, .buildSlice 22 1 #[(0, .tmp 167)], none, false, [], false⟩,
 ⟨some 158, .move (.tmp 0), none, false, [], false⟩,
 ⟨some 159, .nilCheck (.tmp 158), none, false, [], false⟩,
 ⟨some 160, .fieldAddr 116 (.tmp 159) 4, none, false, [], false⟩,
 ⟨some 161, .fieldAddr 66 (.tmp 160) 0, none, false, [], false⟩,
 ⟨some 162, .load 22 (.tmp 161), none, false, [], false⟩,
 ⟨some 169, .call ⟨.builtin .append, #[.tmp 162, .tmp 168], #[22, 22]⟩, none, false, [false, true, true, true, true], false⟩,
 ⟨some 157, .move (.tmp 0), none, false, [], false⟩,
 ⟨some 170, .nilCheck (.tmp 157), none, false, [], false⟩,
 ⟨some 171, .fieldAddr 116 (.tmp 170) 4, none, false, [], false⟩,
 ⟨some 172, .fieldAddr 66 (.tmp 171) 0, none, false, [], false⟩,
 ⟨none, .store 22 (.tmp 172) (.tmp 169), none, false, [], false⟩])
 .skip)))))))))))))))))))))))
noncomputable def fi157 : FI := ⟨c157, 173, [], .plain⟩
noncomputable def c164 : XC :=
 (.seq
 (.reg false [
 ⟨some 2, .assign (.const (.int .i64 0)), none, false, [], false⟩])
 (.seq
 (.reg false [
 ⟨some 3, .move (.tmp 0), none, false, [], false⟩,
 ⟨some 4, .binOp .mul 3 (.const (.int .i64 13)) (.tmp 3) 3, none, false, [], false⟩,
 ⟨some 5, .binOp .add 3 (.const (.int .i64 7001)) (.tmp 4) 3, none, false, [], false⟩,
 ⟨some 2, .assign (.tmp 5), none, false, [], false⟩])
 .ret))
noncomputable def fi164 : FI := ⟨c164, 6, [.tmp 2], .plain⟩
noncomputable def c165 : XC :=
 (.seq
 (.reg false [
 ⟨some 2, .alloc 46, none, false, [], false⟩])
 (.seq
 (.reg false [
 ⟨some 3, .move (.tmp 0), none, false, [], false⟩,
 ⟨some 4, .binOp .sub 3 (.const (.int .i64 (-9))) (.tmp 3) 3, none, false, [], false⟩,
 ⟨some 5, .build 46 #[(0, .tmp 4)], none, false, [], false⟩,
 ⟨none, .store 46 (.tmp 2) (.tmp 5), none, false, [], false⟩])
 .ret))
noncomputable def fi165 : FI := ⟨c165, 6, [.cell 2 46], .plain⟩
noncomputable def c166 : XC :=
 (.seq
 (.reg false [
 ⟨some 2, .alloc 49, none, false, [], false⟩])
 (.seq
 (.reg false [
 ⟨some 3, .move (.tmp 0), none, false, [], false⟩,
 ⟨some 4, .binOp .sub 3 (.const (.int .i64 (-9))) (.tmp 3) 3, none, false, [], false⟩,
 ⟨some 5, .build 29 #[(0, .tmp 4)], none, false, [], false⟩,
 ⟨some 6, .build 49 #[(1, .tmp 5)], none, false, [], false⟩,
 ⟨none, .store 49 (.tmp 2) (.tmp 6), none, false, [], false⟩])
 .ret))
noncomputable def fi166 : FI := ⟨c166, 7, [.cell 2 49], .plain⟩
noncomputable def c175 : XC :=
 (.seq
 (.reg false [
 ⟨some 4, .assign (.const (.int .i64 0)), none, false, [], false⟩])
 (.seq
 (.seq
 (.reg false [
 ⟨some 6, .move (.tmp 0), none, false, [], false⟩,
 ⟨some 7, .call ⟨.builtin .len, #[.tmp 6], #[22]⟩, none, false, [], false⟩,
 ⟨some 8, .move (.const (.int .i64 0)), none, false, [], false⟩])
 (.block 0
 (.loop
 (.seq
 (.reg false [
 ⟨some 9, .binOp .lss 3 (.tmp 8) (.tmp 7) 3, none, false, [], false⟩])
 (.seq
 (.cond (.tmp 9)
 .skip
 (.exit 0))
 (.seq
 (.block 1
 (.seq
 (.reg false [
 ⟨some 10, .move (.tmp 8), none, false, [], false⟩,
 ⟨some 5, .assign (.tmp 10), none, false, [], false⟩])
 (.seq
 (.reg false [
 ⟨some 11, .move (.tmp 1), none, false, [], false⟩,
 ⟨some 12, .move (.tmp 0), none, false, [], false⟩,
 ⟨some 13, .move (.tmp 5), none, false, [], false⟩,
 ⟨some 14, .indexAddr 22 (.tmp 12) (.tmp 13), none, false, [], false⟩,
 ⟨some 15, .load 3 (.tmp 14), none, false, [], false⟩,
 ⟨some 16, .call ⟨.value (.tmp 11), #[.tmp 15], #[3]⟩, none, false, [], false⟩])
 (.cond (.tmp 16)
 (.seq
 (.reg false [
 ⟨some 17, .move (.tmp 5), none, false, [], false⟩,
 ⟨some 4, .assign (.tmp 17), none, false, [], false⟩])
 .ret)
 .skip))))
 (.reg false [
 ⟨some 18, .binOp .add 3 (.tmp 8) (.const (.int .i64 1)) 3, none, false, [], false⟩,
 ⟨some 8, .move (.tmp 18), none, false, [], false⟩])))))))
 (.seq
 (.reg false [
 ⟨some 4, .assign (.const (.int .i64 (-1))), none, false, [], false⟩])
 .ret)))
noncomputable def fi175 : FI := ⟨c175, 19, [.tmp 4], .plain⟩
end Go.Proofs.AmEnv
