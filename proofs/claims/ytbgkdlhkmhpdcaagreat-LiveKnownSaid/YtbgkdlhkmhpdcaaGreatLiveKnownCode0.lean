/- The code of this program's functions, as the abstract machine goes over it. Conditions: none. -/
import Derived.Test.YtbgkdlhkmhpdcaaGreatAmSix
set_option maxRecDepth 100000
namespace Go.Proofs.AmEnv
open Go Go.AM
noncomputable def c5 : XC :=
 (.seq
 (.reg false [
 ⟨some 0, .assign (.const (.bool false)), none, false, [], false⟩])
 (.seq
 (.reg false [
 ⟨some 8, .buildSlice 22 3 #[(0, .const (.int .i64 1)), (1, .const (.int .i64 1)), (2, .const (.int .i64 1))], none, false, [], false⟩,
 ⟨some 9, .build 46 #[(0, .const (.int .i64 1)), (2, .const (.int .i64 0)), (5, .const (.int .i64 3))], none, false, [], false⟩,
 ⟨some 10, .buildSlice 47 1 #[(0, .tmp 9)], none, false, [], false⟩,
 ⟨some 11, .build 29 #[(0, .const (.int .i64 1)), (2, .const (.int .i64 1))], none, false, [], false⟩,
 ⟨some 12, .build 49 #[(0, .tmp 10), (1, .tmp 11)], none, false, [], false⟩,
 ⟨some 13, .build 46 #[(0, .const (.int .i64 2)), (2, .const (.int .i64 1)), (3, .const (.int .i64 0))], none, false, [], false⟩,
 ⟨some 14, .build 46 #[(0, .const (.int .i64 3)), (1, .const (.int .i64 1)), (6, .const (.string ⟨#[45]⟩)), (2, .const (.int .i64 0)), (3, .const (.int .i64 0)), (4, .const (.int .i64 2))], none, false, [], false⟩,
 ⟨some 15, .buildSlice 47 2 #[(0, .tmp 13), (1, .tmp 14)], none, false, [], false⟩,
 ⟨some 16, .build 29 #[(0, .const (.int .i64 2)), (1, .const (.int .i64 1)), (2, .const (.int .i64 1)), (3, .const (.int .i64 2))], none, false, [], false⟩,
 ⟨some 17, .build 49 #[(0, .tmp 15), (1, .tmp 16)], none, false, [], false⟩,
 ⟨some 18, .build 29 #[(0, .const (.int .i64 3)), (1, .const (.int .i64 0))], none, false, [], false⟩,
 ⟨some 19, .build 49 #[(1, .tmp 18)], none, false, [], false⟩,
 ⟨some 20, .buildSlice 23 3 #[(0, .tmp 12), (1, .tmp 17), (2, .tmp 19)], none, false, [], false⟩,
 ⟨some 21, .build 25 #[(0, .const (.string ⟨#[109, 97, 105, 110]⟩)), (1, .const (.int .i64 1)), (3, .tmp 8), (4, .tmp 20)], none, false, [], false⟩,
 ⟨some 1, .alloc 25, none, false, [], false⟩,
 ⟨none, .store 25 (.tmp 1) (.tmp 21), none, false, [], false⟩])
 (.seq
 (.reg false [
 ⟨some 22, .buildSlice 22 3 #[(0, .const (.int .i64 1)), (1, .const (.int .i64 1)), (2, .const (.int .i64 1))], none, false, [], false⟩,
 ⟨some 23, .build 46 #[(0, .const (.int .i64 2)), (2, .const (.int .i64 2)), (3, .const (.int .i64 2))], none, false, [], false⟩,
 ⟨some 24, .buildSlice 47 1 #[(0, .tmp 23)], none, false, [], false⟩,
 ⟨some 25, .build 29 #[(0, .const (.int .i64 3)), (1, .const (.int .i64 (-1)))], none, false, [], false⟩,
 ⟨some 26, .build 49 #[(0, .tmp 24), (1, .tmp 25)], none, false, [], false⟩,
 ⟨some 27, .buildSlice 23 1 #[(0, .tmp 26)], none, false, [], false⟩,
 ⟨some 28, .build 25 #[(0, .const (.string ⟨#[102]⟩)), (1, .const (.int .i64 0)), (2, .const (.int .i64 2)), (3, .tmp 22), (4, .tmp 27)], none, false, [], false⟩,
 ⟨some 2, .alloc 25, none, false, [], false⟩,
 ⟨none, .store 25 (.tmp 2) (.tmp 28), none, false, [], false⟩])
 (.seq
 (.reg false [
 ⟨some 29, .load 25 (.tmp 1), none, false, [], false⟩,
 ⟨some 30, .load 25 (.tmp 2), none, false, [], false⟩,
 ⟨some 31, .buildSlice 33 2 #[(0, .tmp 29), (1, .tmp 30)], none, false, [], false⟩,
 ⟨some 32, .build 36 #[(1, .tmp 31)], none, false, [], false⟩,
 ⟨some 3, .alloc 36, none, false, [], false⟩,
 ⟨none, .store 36 (.tmp 3) (.tmp 32), none, false, [], false⟩])
 (.seq
 (.reg false [
 ⟨some 34, .load 25 (.tmp 1), none, false, [], false⟩,
 ⟨some 35, .call ⟨.value (.func 25), #[.tmp 34], #[25]⟩, none, false, [], false⟩,
 ⟨some 33, .move (.tmp 35), none, false, [], false⟩,
 ⟨some 36, .extract (.tmp 33) 0, none, false, [], false⟩,
 ⟨some 37, .extract (.tmp 33) 1, none, false, [], false⟩,
 ⟨some 4, .assign (.tmp 36), none, false, [], false⟩,
 ⟨some 5, .assign (.tmp 37), none, false, [], false⟩])
 (.seq
 (.reg false [
 ⟨some 38, .load 25 (.tmp 2), none, false, [], false⟩,
 ⟨some 39, .call ⟨.value (.func 26), #[.tmp 38], #[25]⟩, none, false, [], false⟩,
 ⟨some 6, .assign (.tmp 39), none, false, [], false⟩])
 (.seq
 (.seq
 (.reg false [
 ⟨some 40, .move (.tmp 4), none, false, [], false⟩,
 ⟨some 41, .call ⟨.builtin .len, #[.tmp 40], #[51]⟩, none, false, [], false⟩,
 ⟨some 42, .binOp .neq 3 (.tmp 41) (.const (.int .i64 3)) 3, none, false, [], false⟩,
 ⟨some 43, .move (.tmp 42), none, false, [], false⟩,
 ⟨some 44, .move (.tmp 5), some (some 43, false), false, [], false⟩,
 ⟨some 45, .call ⟨.builtin .len, #[.tmp 44], #[51]⟩, some (some 43, false), false, [], false⟩,
 ⟨some 46, .binOp .neq 3 (.tmp 45) (.const (.int .i64 3)) 3, some (some 43, false), false, [], false⟩,
 ⟨some 47, .pick (.tmp 43) (.const (.bool true)) (.tmp 46), none, false, [], false⟩,
 ⟨some 48, .move (.tmp 47), none, false, [], false⟩,
 ⟨some 49, .move (.tmp 6), some (some 48, false), false, [], false⟩,
 ⟨some 50, .call ⟨.builtin .len, #[.tmp 49], #[51]⟩, some (some 48, false), false, [], false⟩,
 ⟨some 51, .binOp .neq 3 (.tmp 50) (.const (.int .i64 3)) 3, some (some 48, false), false, [], false⟩,
 ⟨some 52, .pick (.tmp 48) (.const (.bool true)) (.tmp 51), none, false, [], false⟩])
 (.cond (.tmp 52)
 (.seq
 (.reg false [
 ⟨some 0, .assign (.const (.bool false)), none, false, [], false⟩])
 .ret)
 .skip))
 (.seq
 (.reg false [
 ⟨some 53, .move (.tmp 4), none, false, [], false⟩,
 ⟨some 54, .indexAddr 51 (.tmp 53) (.const (.int .i64 0)), none, false, [], false⟩,
 ⟨some 55, .load 56 (.tmp 54), none, false, [], false⟩,
 ⟨some 56, .buildSlice 56 3 #[(0, .const (.bool false)), (1, .const (.bool false)), (2, .const (.bool true))], none, false, [], false⟩,
 ⟨some 57, .call ⟨.value (.func 27), #[.tmp 55, .tmp 56], #[56, 56]⟩, none, false, [], false⟩,
 ⟨some 58, .move (.tmp 57), none, false, [], false⟩,
 ⟨some 59, .move (.tmp 4), some (some 58, true), false, [], false⟩,
 ⟨some 60, .indexAddr 51 (.tmp 59) (.const (.int .i64 1)), some (some 58, true), false, [], false⟩,
 ⟨some 61, .load 56 (.tmp 60), some (some 58, true), false, [], false⟩,
 ⟨some 62, .buildSlice 56 3 #[(0, .const (.bool true)), (1, .const (.bool false)), (2, .const (.bool true))], some (some 58, true), false, [], false⟩,
 ⟨some 63, .call ⟨.value (.func 27), #[.tmp 61, .tmp 62], #[56, 56]⟩, some (some 58, true), false, [], false⟩,
 ⟨some 64, .pick (.tmp 58) (.tmp 63) (.const (.bool false)), none, false, [], false⟩,
 ⟨some 65, .move (.tmp 64), none, false, [], false⟩,
 ⟨some 66, .move (.tmp 5), some (some 65, true), false, [], false⟩,
 ⟨some 67, .indexAddr 51 (.tmp 66) (.const (.int .i64 1)), some (some 65, true), false, [], false⟩,
 ⟨some 68, .load 56 (.tmp 67), some (some 65, true), false, [], false⟩,
 ⟨some 69, .buildSlice 56 3 #[(0, .const (.bool true)), (1, .const (.bool false)), (2, .const (.bool true))], some (some 65, true), false, [], false⟩,
 ⟨some 70, .call ⟨.value (.func 27), #[.tmp 68, .tmp 69], #[56, 56]⟩, some (some 65, true), false, [], false⟩,
 ⟨some 71, .pick (.tmp 65) (.tmp 70) (.const (.bool false)), none, false, [], false⟩,
 ⟨some 72, .move (.tmp 71), none, false, [], false⟩,
 ⟨some 73, .move (.tmp 4), some (some 72, true), false, [], false⟩,
 ⟨some 74, .indexAddr 51 (.tmp 73) (.const (.int .i64 2)), some (some 72, true), false, [], false⟩,
 ⟨some 75, .load 56 (.tmp 74), some (some 72, true), false, [], false⟩,
 ⟨some 76, .buildSlice 56 3 #[(0, .const (.bool true)), (1, .const (.bool false)), (2, .const (.bool false))], some (some 72, true), false, [], false⟩,
 ⟨some 77, .call ⟨.value (.func 27), #[.tmp 75, .tmp 76], #[56, 56]⟩, some (some 72, true), false, [], false⟩,
 ⟨some 78, .pick (.tmp 72) (.tmp 77) (.const (.bool false)), none, false, [], false⟩,
 ⟨some 79, .move (.tmp 78), none, false, [], false⟩,
 ⟨some 80, .move (.tmp 6), some (some 79, true), false, [], false⟩,
 ⟨some 81, .indexAddr 51 (.tmp 80) (.const (.int .i64 0)), some (some 79, true), false, [], false⟩,
 ⟨some 82, .load 56 (.tmp 81), some (some 79, true), false, [], false⟩,
 ⟨some 83, .buildSlice 56 3 #[(0, .const (.bool false)), (1, .const (.bool true)), (2, .const (.bool true))], some (some 79, true), false, [], false⟩,
 ⟨some 84, .call ⟨.value (.func 27), #[.tmp 82, .tmp 83], #[56, 56]⟩, some (some 79, true), false, [], false⟩,
 ⟨some 85, .pick (.tmp 79) (.tmp 84) (.const (.bool false)), none, false, [], false⟩,
 ⟨some 86, .move (.tmp 85), none, false, [], false⟩,
 ⟨some 87, .move (.tmp 6), some (some 86, true), false, [], false⟩,
 ⟨some 88, .indexAddr 51 (.tmp 87) (.const (.int .i64 2)), some (some 86, true), false, [], false⟩,
 ⟨some 89, .load 56 (.tmp 88), some (some 86, true), false, [], false⟩,
 ⟨some 90, .buildSlice 56 3 #[(0, .const (.bool true)), (1, .const (.bool true)), (2, .const (.bool false))], some (some 86, true), false, [], false⟩,
 ⟨some 91, .call ⟨.value (.func 27), #[.tmp 89, .tmp 90], #[56, 56]⟩, some (some 86, true), false, [], false⟩,
 ⟨some 92, .pick (.tmp 86) (.tmp 91) (.const (.bool false)), none, false, [], false⟩,
 ⟨some 7, .assign (.tmp 92), none, false, [], false⟩])
 (.seq
 (.reg false [
 ⟨some 93, .move (.tmp 7), none, false, [], false⟩,
 ⟨some 94, .move (.tmp 93), none, false, [], false⟩,
 ⟨some 95, .load 36 (.tmp 3), some (some 94, true), false, [], false⟩,
 ⟨some 96, .call ⟨.value (.func 28), #[.tmp 95], #[36]⟩, some (some 94, true), false, [], false⟩,
 ⟨some 97, .pick (.tmp 94) (.tmp 96) (.const (.bool false)), none, false, [], false⟩,
 ⟨some 98, .move (.tmp 97), none, false, [], false⟩,
 ⟨some 99, .load 36 (.tmp 3), some (some 98, true), false, [], false⟩,
 ⟨some 100, .call ⟨.value (.func 29), #[.tmp 99], #[36]⟩, some (some 98, true), false, [], false⟩,
 ⟨some 101, .pick (.tmp 98) (.tmp 100) (.const (.bool false)), none, false, [], false⟩,
 ⟨some 102, .move (.tmp 101), none, false, [], false⟩,
 ⟨some 103, .load 36 (.tmp 3), some (some 102, true), false, [], false⟩,
 ⟨some 104, .build 59 #[(1, .const (.int .i64 2)), (2, .const (.int .i64 1)), (3, .const (.int .i64 5)), (4, .const (.int .i64 50))], some (some 102, true), false, [], false⟩,
 ⟨some 105, .call ⟨.value (.func 30), #[.tmp 103, .tmp 104], #[36, 59]⟩, some (some 102, true), false, [], false⟩,
 ⟨some 106, .pick (.tmp 102) (.tmp 105) (.const (.bool false)), none, false, [], false⟩,
 ⟨some 107, .move (.tmp 106), none, false, [], false⟩,
 ⟨some 108, .call ⟨.value (.func 31), #[], #[]⟩, some (some 107, true), false, [], false⟩,
 ⟨some 109, .pick (.tmp 107) (.tmp 108) (.const (.bool false)), none, false, [], false⟩,
 ⟨some 0, .assign (.tmp 109), none, false, [], false⟩])
 .ret)))))))))
noncomputable def fi5 : FI := ⟨c5, 110, [.tmp 0], .plain⟩
noncomputable def c16 : XC :=
 (.seq
 (.reg false [
 ⟨some 2, .box 25 (.tmp 0), none, false, [], false⟩,
 ⟨some 3, .box 25 (.tmp 1), none, false, [], false⟩,
 ⟨some 4, .assign (.const (.bool false)), none, false, [], false⟩])
 (.seq
 (.reg false [
 ⟨some 5, .fieldAddr 25 (.tmp 2) 0, none, false, [], false⟩,
 ⟨some 6, .load 9 (.tmp 5), none, false, [], false⟩,
 ⟨some 7, .fieldAddr 25 (.tmp 3) 0, none, false, [], false⟩,
 ⟨some 8, .load 9 (.tmp 7), none, false, [], false⟩,
 ⟨some 9, .binOp .eql 9 (.tmp 6) (.tmp 8) 9, none, false, [], false⟩,
 ⟨some 10, .move (.tmp 9), none, false, [], false⟩,
 ⟨some 11, .fieldAddr 25 (.tmp 2) 1, some (some 10, true), false, [], false⟩,
 ⟨some 12, .load 3 (.tmp 11), some (some 10, true), false, [], false⟩,
 ⟨some 13, .fieldAddr 25 (.tmp 3) 1, some (some 10, true), false, [], false⟩,
 ⟨some 14, .load 3 (.tmp 13), some (some 10, true), false, [], false⟩,
 ⟨some 15, .binOp .eql 3 (.tmp 12) (.tmp 14) 3, some (some 10, true), false, [], false⟩,
 ⟨some 16, .pick (.tmp 10) (.tmp 15) (.const (.bool false)), none, false, [], false⟩,
 ⟨some 17, .move (.tmp 16), none, false, [], false⟩,
 ⟨some 18, .fieldAddr 25 (.tmp 2) 2, some (some 17, true), false, [], false⟩,
 ⟨some 19, .load 3 (.tmp 18), some (some 17, true), false, [], false⟩,
 ⟨some 20, .fieldAddr 25 (.tmp 3) 2, some (some 17, true), false, [], false⟩,
 ⟨some 21, .load 3 (.tmp 20), some (some 17, true), false, [], false⟩,
 ⟨some 22, .binOp .eql 3 (.tmp 19) (.tmp 21) 3, some (some 17, true), false, [], false⟩,
 ⟨some 23, .pick (.tmp 17) (.tmp 22) (.const (.bool false)), none, false, [], false⟩,
 ⟨some 24, .move (.tmp 23), none, false, [], false⟩,
 ⟨some 25, .fieldAddr 25 (.tmp 2) 3, some (some 24, true), false, [], false⟩,
 ⟨some 26, .load 22 (.tmp 25), some (some 24, true), false, [], false⟩,
 ⟨some 27, .fieldAddr 25 (.tmp 3) 3, some (some 24, true), false, [], false⟩,
 ⟨some 28, .load 22 (.tmp 27), some (some 24, true), false, [], false⟩,
 ⟨some 29, .call ⟨.value (.func 61), #[.tmp 26, .tmp 28], #[22, 22]⟩, some (some 24, true), false, [], false⟩,
 ⟨some 30, .pick (.tmp 24) (.tmp 29) (.const (.bool false)), none, false, [], false⟩,
 ⟨some 31, .move (.tmp 30), none, false, [], false⟩,
 ⟨some 32, .fieldAddr 25 (.tmp 2) 4, some (some 31, true), false, [], false⟩,
 ⟨some 33, .load 23 (.tmp 32), some (some 31, true), false, [], false⟩,
 ⟨some 34, .fieldAddr 25 (.tmp 3) 4, some (some 31, true), false, [], false⟩,
 ⟨some 35, .load 23 (.tmp 34), some (some 31, true), false, [], false⟩,
 ⟨some 36, .call ⟨.value (.func 64), #[.tmp 33, .tmp 35], #[23, 23]⟩, some (some 31, true), false, [], false⟩,
 ⟨some 37, .pick (.tmp 31) (.tmp 36) (.const (.bool false)), none, false, [], false⟩,
 ⟨some 4, .assign (.tmp 37), none, false, [], false⟩])
 .ret))
noncomputable def fi16 : FI := ⟨c16, 38, [.tmp 4], .plain⟩
noncomputable def c25 : XC :=
 (.seq
 (.reg false [
 ⟨some 1, .box 25 (.tmp 0), none, false, [], false⟩,
 ⟨some 2, .alloc 51, none, false, [], false⟩,
 ⟨some 3, .alloc 51, none, false, [], false⟩])
 (.seq
 (.seq
 (.reg false [
 ⟨some 9, .fieldAddr 25 (.tmp 1) 4, none, false, [], false⟩,
 ⟨some 10, .load 23 (.tmp 9), none, false, [], false⟩,
 ⟨some 11, .call ⟨.builtin .len, #[.tmp 10], #[23]⟩, none, false, [], false⟩,
 ⟨some 12, .move (.const (.int .i64 0)), none, false, [], false⟩])
 (.block 0
 (.loop
 (.seq
 (.reg false [
 ⟨some 13, .binOp .lss 3 (.tmp 12) (.tmp 11) 3, none, false, [], false⟩])
 (.seq
 (.cond (.tmp 13)
 .skip
 (.exit 0))
 (.seq
 (.block 1
 (.seq
 (.reg true [
 ⟨some 15, .fieldAddr 25 (.tmp 1) 3, none, false, [], false⟩,
 ⟨some 16, .load 22 (.tmp 15), none, false, [], false⟩,
 ⟨some 17, .call ⟨.builtin .len, #[.tmp 16], #[22]⟩, none, false, [], false⟩,
 ⟨some 18, .makeSlice 56 (.tmp 17) (.tmp 17), none, false, [], false⟩,
 ⟨some 19, .buildSlice 51 1 #[(0, .tmp 18)], none, false, [], false⟩,
 ⟨some 14, .load 51 (.tmp 2), none, false, [], false⟩,
 ⟨some 20, .call ⟨.builtin .append, #[.tmp 14, .tmp 19], #[51, 51]⟩, none, false, [true], false⟩,
 ⟨none, .store 51 (.tmp 2) (.tmp 20), none, false, [], false⟩])
 (.reg true [
 ⟨some 22, .fieldAddr 25 (.tmp 1) 3, none, false, [], false⟩,
 ⟨some 23, .load 22 (.tmp 22), none, false, [], false⟩,
 ⟨some 24, .call ⟨.builtin .len, #[.tmp 23], #[22]⟩, none, false, [], false⟩,
 ⟨some 25, .makeSlice 56 (.tmp 24) (.tmp 24), none, false, [], false⟩,
 ⟨some 26, .buildSlice 51 1 #[(0, .tmp 25)], none, false, [], false⟩,
 ⟨some 21, .load 51 (.tmp 3), none, false, [], false⟩,
 ⟨some 27, .call ⟨.builtin .append, #[.tmp 21, .tmp 26], #[51, 51]⟩, none, false, [true], false⟩,
 ⟨none, .store 51 (.tmp 3) (.tmp 27), none, false, [], false⟩])))
 (.reg false [
 ⟨some 28, .binOp .add 3 (.tmp 12) (.const (.int .i64 1)) 3, none, false, [], false⟩,
 ⟨some 12, .move (.tmp 28), none, false, [], false⟩])))))))
 (.seq
 (.seq
 (.reg false [
 ⟨some 4, .alloc 4, none, false, [], false⟩,
 ⟨none, .store 4 (.tmp 4) (.const (.bool true)), none, false, [], false⟩])
 (.block 2
 (.loop
 (.seq
 (.seq
 (.reg false [
 ⟨some 29, .load 4 (.tmp 4), none, false, [], false⟩])
 (.cond (.tmp 29)
 .skip
 (.exit 2)))
 (.seq
 (.block 3
 (.seq
 (.reg false [
 ⟨none, .store 4 (.tmp 4) (.const (.bool false)), none, false, [], false⟩])
 (.seq
 (.reg false [
 ⟨some 30, .fieldAddr 25 (.tmp 1) 4, none, false, [], false⟩,
 ⟨some 31, .load 23 (.tmp 30), none, false, [], false⟩,
 ⟨some 32, .call ⟨.value (.func 72), #[.tmp 31], #[23]⟩, none, false, [], false⟩])
 (.block 4
 (.rfn (.tmp 32) [33, 34]
 (.seq
 (.reg false [
 ⟨some 5, .assign (.tmp 33), none, false, [], false⟩])
 (.reg false [
 ⟨some 6, .alloc 49, none, false, [], false⟩,
 ⟨none, .store 49 (.tmp 6) (.tmp 34), none, false, [], false⟩]))
 (.block 5
 (.seq
 (.seq
 (.reg false [
 ⟨some 35, .fieldAddr 49 (.tmp 6) 1, none, false, [], false⟩,
 ⟨some 36, .load 29 (.tmp 35), none, false, [], false⟩,
 ⟨some 37, .call ⟨.value (.func 73), #[.tmp 36], #[29]⟩, none, false, [], false⟩,
 ⟨some 38, .call ⟨.builtin .len, #[.tmp 37], #[22]⟩, none, false, [], false⟩,
 ⟨some 39, .move (.const (.int .i64 0)), none, false, [], false⟩])
 (.block 6
 (.loop
 (.seq
 (.reg false [
 ⟨some 40, .binOp .lss 3 (.tmp 39) (.tmp 38) 3, none, false, [], false⟩])
 (.seq
 (.cond (.tmp 40)
 .skip
 (.exit 6))
 (.seq
 (.block 7
 (.seq
 (.reg false [
 ⟨some 41, .indexAddr 22 (.tmp 37) (.tmp 39), none, false, [], false⟩,
 ⟨some 42, .load 3 (.tmp 41), none, false, [], false⟩,
 ⟨some 8, .assign (.tmp 42), none, false, [], false⟩])
 (.reg true [
 ⟨some 43, .load 51 (.tmp 3), none, false, [], false⟩,
 ⟨some 44, .move (.tmp 5), none, false, [], false⟩,
 ⟨some 45, .indexAddr 51 (.tmp 43) (.tmp 44), none, false, [], false⟩,
 ⟨some 46, .load 56 (.tmp 45), none, false, [], false⟩,
 ⟨some 47, .load 51 (.tmp 2), none, false, [], false⟩,
 ⟨some 48, .move (.tmp 8), none, false, [], false⟩,
 ⟨some 49, .indexAddr 51 (.tmp 47) (.tmp 48), none, false, [], false⟩,
 ⟨some 50, .load 56 (.tmp 49), none, false, [], false⟩,
 ⟨some 51, .call ⟨.value (.func 74), #[.tmp 46, .tmp 50], #[56, 56]⟩, none, false, [], false⟩])))
 (.reg false [
 ⟨some 52, .binOp .add 3 (.tmp 39) (.const (.int .i64 1)) 3, none, false, [], false⟩,
 ⟨some 39, .move (.tmp 52), none, false, [], false⟩])))))))
 (.seq
 (.reg true [
 ⟨some 57, .load 49 (.tmp 6), none, false, [], false⟩,
 ⟨some 58, .load 51 (.tmp 3), none, false, [], false⟩,
 ⟨some 59, .move (.tmp 5), none, false, [], false⟩,
 ⟨some 60, .indexAddr 51 (.tmp 58) (.tmp 59), none, false, [], false⟩,
 ⟨some 61, .load 56 (.tmp 60), none, false, [], false⟩,
 ⟨some 62, .call ⟨.value (.func 75), #[.tmp 57, .tmp 61, .func 76], #[49, 56, 97]⟩, none, true, [false, false, false, false, true], false⟩,
 ⟨some 53, .load 51 (.tmp 2), none, false, [], true⟩,
 ⟨some 54, .move (.tmp 5), none, false, [], false⟩,
 ⟨some 55, .indexAddr 51 (.tmp 53) (.tmp 54), none, false, [], false⟩,
 ⟨some 56, .load 56 (.tmp 55), none, false, [], true⟩,
 ⟨some 63, .call ⟨.value (.func 74), #[.tmp 56, .tmp 62], #[56, 56]⟩, none, false, [], false⟩])
 (.cond (.tmp 63)
 (.reg false [
 ⟨none, .store 4 (.tmp 4) (.const (.bool true)), none, false, [], false⟩])
 .skip)))))))))
 (.seq
 (.reg false [
 ⟨some 64, .load 4 (.tmp 4), none, false, [], false⟩])
 (.reg false [
 ⟨some 4, .alloc 4, none, false, [], false⟩,
 ⟨none, .store 4 (.tmp 4) (.tmp 64), none, false, [], false⟩])))))))
 (.seq
 (.reg true [
 ⟨some 65, .load 51 (.tmp 2), none, false, [], false⟩,
 ⟨none, .store 51 (.tmp 2) (.tmp 65), none, true, [false, true], false⟩,
 ⟨some 66, .load 51 (.tmp 3), none, false, [], true⟩,
 ⟨none, .store 51 (.tmp 3) (.tmp 66), none, false, [], false⟩])
 .ret))))
noncomputable def fi25 : FI := ⟨c25, 67, [.cell 2 51, .cell 3 51], .plain⟩
noncomputable def c26 : XC :=
 (.seq
 (.reg false [
 ⟨some 1, .box 25 (.tmp 0), none, false, [], false⟩,
 ⟨some 2, .assign (.const (.slice none 0 0)), none, false, [], false⟩])
 (.seq
 (.reg false [
 ⟨some 3, .alloc 51, none, false, [], false⟩])
 (.seq
 (.seq
 (.reg false [
 ⟨some 12, .fieldAddr 25 (.tmp 1) 3, none, false, [], false⟩,
 ⟨some 13, .load 22 (.tmp 12), none, false, [], false⟩,
 ⟨some 14, .call ⟨.builtin .len, #[.tmp 13], #[22]⟩, none, false, [], false⟩,
 ⟨some 15, .move (.const (.int .i64 0)), none, false, [], false⟩])
 (.block 0
 (.loop
 (.seq
 (.reg false [
 ⟨some 16, .binOp .lss 3 (.tmp 15) (.tmp 14) 3, none, false, [], false⟩])
 (.seq
 (.cond (.tmp 16)
 .skip
 (.exit 0))
 (.seq
 (.block 1
 (.reg true [
 ⟨some 18, .fieldAddr 25 (.tmp 1) 3, none, false, [], false⟩,
 ⟨some 19, .load 22 (.tmp 18), none, false, [], false⟩,
 ⟨some 20, .call ⟨.builtin .len, #[.tmp 19], #[22]⟩, none, false, [], false⟩,
 ⟨some 21, .makeSlice 56 (.tmp 20) (.tmp 20), none, false, [], false⟩,
 ⟨some 22, .buildSlice 51 1 #[(0, .tmp 21)], none, false, [], false⟩,
 ⟨some 17, .load 51 (.tmp 3), none, false, [], false⟩,
 ⟨some 23, .call ⟨.builtin .append, #[.tmp 17, .tmp 22], #[51, 51]⟩, none, false, [true], false⟩,
 ⟨none, .store 51 (.tmp 3) (.tmp 23), none, false, [], false⟩]))
 (.reg false [
 ⟨some 24, .binOp .add 3 (.tmp 15) (.const (.int .i64 1)) 3, none, false, [], false⟩,
 ⟨some 15, .move (.tmp 24), none, false, [], false⟩])))))))
 (.seq
 (.reg false [
 ⟨some 25, .makeFunc (.func 77) #[] #[.tmp 3], none, false, [], false⟩,
 ⟨some 4, .alloc 98, none, false, [], false⟩,
 ⟨none, .store 98 (.tmp 4) (.tmp 25), none, false, [], false⟩])
 (.seq
 (.reg false [
 ⟨some 27, .load 25 (.tmp 1), none, false, [], false⟩,
 ⟨some 28, .call ⟨.value (.func 25), #[.tmp 27], #[25]⟩, none, false, [], false⟩,
 ⟨some 26, .move (.tmp 28), none, false, [], false⟩,
 ⟨some 29, .extract (.tmp 26) 0, none, false, [], false⟩,
 ⟨some 30, .extract (.tmp 26) 1, none, false, [], false⟩,
 ⟨some 5, .alloc 51, none, false, [], false⟩,
 ⟨none, .store 51 (.tmp 5) (.tmp 29), none, false, [], false⟩,
 ⟨some 6, .assign (.tmp 30), none, false, [], false⟩])
 (.seq
 (.reg false [
 ⟨some 31, .makeFunc (.func 78) #[] #[.tmp 1, .tmp 5], none, false, [], false⟩,
 ⟨some 7, .assign (.tmp 31), none, false, [], false⟩])
 (.seq
 (.seq
 (.reg false [
 ⟨some 32, .fieldAddr 25 (.tmp 1) 3, none, false, [], false⟩,
 ⟨some 33, .load 22 (.tmp 32), none, false, [], false⟩,
 ⟨some 34, .call ⟨.builtin .len, #[.tmp 33], #[22]⟩, none, false, [], false⟩,
 ⟨some 35, .move (.const (.int .i64 0)), none, false, [], false⟩])
 (.block 2
 (.loop
 (.seq
 (.reg false [
 ⟨some 36, .binOp .lss 3 (.tmp 35) (.tmp 34) 3, none, false, [], false⟩])
 (.seq
 (.cond (.tmp 36)
 .skip
 (.exit 2))
 (.seq
 (.block 3
 (.seq
 (.reg false [
 ⟨some 37, .move (.tmp 35), none, false, [], false⟩,
 ⟨some 8, .assign (.tmp 37), none, false, [], false⟩])
 (.seq
 (.reg false [
 ⟨some 38, .move (.tmp 8), none, false, [], false⟩,
 ⟨some 39, .move (.const (.int .i64 0)), none, false, [], false⟩])
 (.block 4
 (.loop
 (.seq
 (.reg false [
 ⟨some 40, .binOp .lss 3 (.tmp 39) (.tmp 38) 3, none, false, [], false⟩])
 (.seq
 (.cond (.tmp 40)
 .skip
 (.exit 4))
 (.seq
 (.block 5
 (.seq
 (.reg false [
 ⟨some 41, .move (.tmp 39), none, false, [], false⟩,
 ⟨some 9, .assign (.tmp 41), none, false, [], false⟩])
 (.seq
 (.reg false [
 ⟨some 42, .move (.tmp 7), none, false, [], false⟩,
 ⟨some 43, .move (.tmp 8), none, false, [], false⟩,
 ⟨some 44, .call ⟨.value (.tmp 42), #[.tmp 43], #[3]⟩, none, false, [], false⟩,
 ⟨some 45, .move (.tmp 44), none, false, [], false⟩,
 ⟨some 46, .move (.tmp 7), some (some 45, true), false, [], false⟩,
 ⟨some 47, .move (.tmp 9), some (some 45, true), false, [], false⟩,
 ⟨some 48, .call ⟨.value (.tmp 46), #[.tmp 47], #[3]⟩, some (some 45, true), false, [], false⟩,
 ⟨some 49, .pick (.tmp 45) (.tmp 48) (.const (.bool false)), none, false, [], false⟩])
 (.cond (.tmp 49)
 (.reg false [
 ⟨some 50, .load 98 (.tmp 4), none, false, [], false⟩,
 ⟨some 51, .move (.tmp 8), none, false, [], false⟩,
 ⟨some 52, .move (.tmp 9), none, false, [], false⟩,
 ⟨some 53, .call ⟨.value (.tmp 50), #[.tmp 51, .tmp 52], #[3, 3]⟩, none, false, [], false⟩])
 .skip))))
 (.reg false [
 ⟨some 54, .binOp .add 3 (.tmp 39) (.const (.int .i64 1)) 3, none, false, [], false⟩,
 ⟨some 39, .move (.tmp 54), none, false, [], false⟩])))))))))
 (.reg false [
 ⟨some 55, .binOp .add 3 (.tmp 35) (.const (.int .i64 1)) 3, none, false, [], false⟩,
 ⟨some 35, .move (.tmp 55), none, false, [], false⟩])))))))
 (.seq
 (.seq
 (.reg false [
 ⟨some 56, .fieldAddr 25 (.tmp 1) 4, none, false, [], false⟩,
 ⟨some 57, .load 23 (.tmp 56), none, false, [], false⟩,
 ⟨some 58, .call ⟨.builtin .len, #[.tmp 57], #[23]⟩, none, false, [], false⟩,
 ⟨some 59, .move (.const (.int .i64 0)), none, false, [], false⟩])
 (.block 6
 (.loop
 (.seq
 (.reg false [
 ⟨some 60, .binOp .lss 3 (.tmp 59) (.tmp 58) 3, none, false, [], false⟩])
 (.seq
 (.cond (.tmp 60)
 .skip
 (.exit 6))
 (.seq
 (.block 7
 (.seq
 (.reg false [
 ⟨some 61, .move (.tmp 59), none, false, [], false⟩,
 ⟨some 62, .indexAddr 23 (.tmp 57) (.tmp 59), none, false, [], false⟩,
 ⟨some 63, .load 49 (.tmp 62), none, false, [], false⟩,
 ⟨some 11, .alloc 49, none, false, [], false⟩,
 ⟨some 10, .assign (.tmp 61), none, false, [], false⟩,
 ⟨none, .store 49 (.tmp 11) (.tmp 63), none, false, [], false⟩])
 (.reg true [
 ⟨some 64, .load 49 (.tmp 11), none, false, [], false⟩,
 ⟨some 65, .move (.tmp 6), none, false, [], false⟩,
 ⟨some 66, .move (.tmp 10), none, false, [], false⟩,
 ⟨some 67, .indexAddr 51 (.tmp 65) (.tmp 66), none, false, [], false⟩,
 ⟨some 68, .load 56 (.tmp 67), none, false, [], false⟩,
 ⟨some 69, .makeFunc (.func 79) #[] #[.tmp 4], none, false, [], false⟩,
 ⟨some 70, .call ⟨.value (.func 75), #[.tmp 64, .tmp 68, .tmp 69], #[49, 56, 97]⟩, none, false, [], false⟩])))
 (.reg false [
 ⟨some 71, .binOp .add 3 (.tmp 59) (.const (.int .i64 1)) 3, none, false, [], false⟩,
 ⟨some 59, .move (.tmp 71), none, false, [], false⟩])))))))
 (.seq
 (.reg false [
 ⟨some 72, .load 51 (.tmp 3), none, false, [], false⟩,
 ⟨some 2, .assign (.tmp 72), none, false, [], false⟩])
 .ret)))))))))
noncomputable def fi26 : FI := ⟨c26, 73, [.tmp 2], .plain⟩
noncomputable def c27 : XC :=
 (.seq
 (.reg false [
 ⟨some 4, .assign (.const (.bool false)), none, false, [], false⟩])
 (.seq
 (.seq
 (.reg false [
 ⟨some 6, .move (.tmp 0), none, false, [], false⟩,
 ⟨some 7, .call ⟨.builtin .len, #[.tmp 6], #[56]⟩, none, false, [], false⟩,
 ⟨some 8, .move (.tmp 1), none, false, [], false⟩,
 ⟨some 9, .call ⟨.builtin .len, #[.tmp 8], #[56]⟩, none, false, [], false⟩,
 ⟨some 10, .binOp .neq 3 (.tmp 7) (.tmp 9) 3, none, false, [], false⟩])
 (.cond (.tmp 10)
 (.seq
 (.reg false [
 ⟨some 4, .assign (.const (.bool false)), none, false, [], false⟩])
 .ret)
 .skip))
 (.seq
 (.seq
 (.reg false [
 ⟨some 5, .assign (.const (.int .i64 0)), none, false, [], false⟩])
 (.block 0
 (.loop
 (.seq
 (.seq
 (.reg false [
 ⟨some 11, .move (.tmp 5), none, false, [], false⟩,
 ⟨some 12, .move (.tmp 0), none, false, [], false⟩,
 ⟨some 13, .call ⟨.builtin .len, #[.tmp 12], #[56]⟩, none, false, [], false⟩,
 ⟨some 14, .binOp .lss 3 (.tmp 11) (.tmp 13) 3, none, false, [], false⟩])
 (.cond (.tmp 14)
 .skip
 (.exit 0)))
 (.seq
 (.block 1
 (.seq
 (.reg true [
 ⟨some 17, .move (.tmp 0), none, false, [], false⟩,
 ⟨some 18, .move (.tmp 5), none, false, [], false⟩,
 ⟨some 19, .indexAddr 56 (.tmp 17) (.tmp 18), none, false, [], false⟩,
 ⟨some 20, .load 4 (.tmp 19), none, false, [], false⟩,
 ⟨some 21, .move (.tmp 1), none, false, [], false⟩,
 ⟨some 22, .move (.tmp 5), none, false, [], false⟩,
 ⟨some 23, .indexAddr 56 (.tmp 21) (.tmp 22), none, false, [], false⟩,
 ⟨some 24, .load 4 (.tmp 23), none, false, [], false⟩,
 ⟨some 25, .binOp .eql 4 (.tmp 20) (.tmp 24) 4, none, false, [], false⟩,
 ⟨some 26, .unOp .not 4 (.tmp 25), none, false, [], false⟩])
 (.cond (.tmp 26)
 (.seq
 (.reg false [
 ⟨some 4, .assign (.const (.bool false)), none, false, [], false⟩])
 .ret)
 .skip)))
 (.reg false [
 ⟨some 15, .move (.tmp 5), none, false, [], false⟩,
 ⟨some 16, .binOp .add 3 (.tmp 15) (.const (.int .i64 1)) 3, none, false, [], false⟩,
 ⟨some 5, .assign (.tmp 16), none, false, [], false⟩]))))))
 (.seq
 (.reg false [
 ⟨some 4, .assign (.const (.bool true)), none, false, [], false⟩])
 .ret))))
noncomputable def fi27 : FI := ⟨c27, 27, [.tmp 4], .plain⟩
noncomputable def c28 : XC :=
 (.seq
 (.reg false [
 ⟨some 1, .box 36 (.tmp 0), none, false, [], false⟩,
 ⟨some 2, .assign (.const (.bool false)), none, false, [], false⟩])
 (.seq
 (.seq
 (.reg false [
 ⟨some 14, .load 36 (.tmp 1), none, false, [], false⟩,
 ⟨some 15, .call ⟨.value (.func 55), #[.tmp 14], #[36]⟩, none, false, [], false⟩])
 (.cond (.tmp 15)
 (.seq
 (.reg false [
 ⟨some 16, .call ⟨.value (.func 31), #[], #[]⟩, none, false, [], false⟩,
 ⟨some 2, .assign (.tmp 16), none, false, [], false⟩])
 .ret)
 .skip))
 (.seq
 (.seq
 (.reg false [
 ⟨some 3, .assign (.const (.int .i64 0)), none, false, [], false⟩])
 (.block 0
 (.loop
 (.seq
 (.seq
 (.reg false [
 ⟨some 17, .move (.tmp 3), none, false, [], false⟩,
 ⟨some 18, .fieldAddr 36 (.tmp 1) 1, none, false, [], false⟩,
 ⟨some 19, .load 33 (.tmp 18), none, false, [], false⟩,
 ⟨some 20, .call ⟨.builtin .len, #[.tmp 19], #[33]⟩, none, false, [], false⟩,
 ⟨some 21, .binOp .lss 3 (.tmp 17) (.tmp 20) 3, none, false, [], false⟩])
 (.cond (.tmp 21)
 .skip
 (.exit 0)))
 (.seq
 (.block 1
 (.seq
 (.reg false [
 ⟨some 24, .fieldAddr 36 (.tmp 1) 1, none, false, [], false⟩,
 ⟨some 25, .load 33 (.tmp 24), none, false, [], false⟩,
 ⟨some 26, .move (.tmp 3), none, false, [], false⟩,
 ⟨some 27, .indexAddr 33 (.tmp 25) (.tmp 26), none, false, [], false⟩,
 ⟨some 28, .load 25 (.tmp 27), none, false, [], false⟩,
 ⟨some 29, .call ⟨.value (.func 56), #[.tmp 28], #[25]⟩, none, false, [], false⟩,
 ⟨some 4, .alloc 25, none, false, [], false⟩,
 ⟨none, .store 25 (.tmp 4) (.tmp 29), none, false, [], false⟩])
 (.seq
 (.reg false [
 ⟨some 31, .load 25 (.tmp 4), none, false, [], false⟩,
 ⟨some 32, .call ⟨.value (.func 25), #[.tmp 31], #[25]⟩, none, false, [], false⟩,
 ⟨some 30, .move (.tmp 32), none, false, [], false⟩,
 ⟨some 33, .extract (.tmp 30) 0, none, false, [], false⟩,
 ⟨some 34, .extract (.tmp 30) 1, none, false, [], false⟩,
 ⟨some 5, .assign (.tmp 33), none, false, [], false⟩,
 ⟨some 6, .assign (.tmp 34), none, false, [], false⟩])
 (.seq
 (.reg false [
 ⟨some 36, .fieldAddr 36 (.tmp 1) 1, none, false, [], false⟩,
 ⟨some 37, .load 33 (.tmp 36), none, false, [], false⟩,
 ⟨some 38, .move (.tmp 3), none, false, [], false⟩,
 ⟨some 39, .indexAddr 33 (.tmp 37) (.tmp 38), none, false, [], false⟩,
 ⟨some 40, .load 25 (.tmp 39), none, false, [], false⟩,
 ⟨some 41, .call ⟨.value (.func 81), #[.tmp 40], #[25]⟩, none, false, [], false⟩,
 ⟨some 35, .move (.tmp 41), none, false, [], false⟩,
 ⟨some 42, .extract (.tmp 35) 0, none, false, [], false⟩,
 ⟨some 43, .extract (.tmp 35) 1, none, false, [], false⟩,
 ⟨some 7, .assign (.tmp 42), none, false, [], false⟩,
 ⟨some 8, .assign (.tmp 43), none, false, [], false⟩])
 (.seq
 (.reg false [
 ⟨some 44, .load 25 (.tmp 4), none, false, [], false⟩,
 ⟨some 45, .call ⟨.value (.func 26), #[.tmp 44], #[25]⟩, none, false, [], false⟩,
 ⟨some 9, .assign (.tmp 45), none, false, [], false⟩])
 (.seq
 (.seq
 (.reg false [
 ⟨some 46, .move (.tmp 5), none, false, [], false⟩,
 ⟨some 47, .move (.tmp 7), none, false, [], false⟩,
 ⟨some 48, .call ⟨.value (.func 82), #[.tmp 46, .tmp 47], #[51, 51]⟩, none, false, [], false⟩,
 ⟨some 49, .unOp .not 4 (.tmp 48), none, false, [], false⟩,
 ⟨some 50, .move (.tmp 49), none, false, [], false⟩,
 ⟨some 51, .move (.tmp 6), some (some 50, false), false, [], false⟩,
 ⟨some 52, .move (.tmp 8), some (some 50, false), false, [], false⟩,
 ⟨some 53, .call ⟨.value (.func 82), #[.tmp 51, .tmp 52], #[51, 51]⟩, some (some 50, false), false, [], false⟩,
 ⟨some 54, .unOp .not 4 (.tmp 53), some (some 50, false), false, [], false⟩,
 ⟨some 55, .pick (.tmp 50) (.const (.bool true)) (.tmp 54), none, false, [], false⟩,
 ⟨some 56, .move (.tmp 55), none, false, [], false⟩,
 ⟨some 57, .move (.tmp 9), some (some 56, false), false, [], false⟩,
 ⟨some 58, .fieldAddr 36 (.tmp 1) 1, some (some 56, false), false, [], false⟩,
 ⟨some 59, .load 33 (.tmp 58), some (some 56, false), false, [], false⟩,
 ⟨some 60, .move (.tmp 3), some (some 56, false), false, [], false⟩,
 ⟨some 61, .indexAddr 33 (.tmp 59) (.tmp 60), some (some 56, false), false, [], false⟩,
 ⟨some 62, .load 25 (.tmp 61), some (some 56, false), false, [], false⟩,
 ⟨some 63, .call ⟨.value (.func 83), #[.tmp 62], #[25]⟩, some (some 56, false), false, [], false⟩,
 ⟨some 64, .call ⟨.value (.func 82), #[.tmp 57, .tmp 63], #[51, 51]⟩, some (some 56, false), false, [], false⟩,
 ⟨some 65, .unOp .not 4 (.tmp 64), some (some 56, false), false, [], false⟩,
 ⟨some 66, .pick (.tmp 56) (.const (.bool true)) (.tmp 65), none, false, [], false⟩])
 (.cond (.tmp 66)
 (.seq
 (.reg false [
 ⟨some 2, .assign (.const (.bool false)), none, false, [], false⟩])
 .ret)
 .skip))
 (.seq
 (.seq
 (.reg false [
 ⟨some 10, .assign (.const (.int .i64 0)), none, false, [], false⟩])
 (.block 2
 (.loop
 (.seq
 (.seq
 (.reg false [
 ⟨some 67, .move (.tmp 10), none, false, [], false⟩,
 ⟨some 68, .move (.tmp 5), none, false, [], false⟩,
 ⟨some 69, .call ⟨.builtin .len, #[.tmp 68], #[51]⟩, none, false, [], false⟩,
 ⟨some 70, .binOp .lss 3 (.tmp 67) (.tmp 69) 3, none, false, [], false⟩])
 (.cond (.tmp 70)
 .skip
 (.exit 2)))
 (.seq
 (.block 3
 (.seq
 (.reg false [
 ⟨some 73, .move (.tmp 5), none, false, [], false⟩,
 ⟨some 74, .move (.tmp 10), none, false, [], false⟩,
 ⟨some 75, .indexAddr 51 (.tmp 73) (.tmp 74), none, false, [], false⟩,
 ⟨some 76, .load 56 (.tmp 75), none, false, [], false⟩,
 ⟨some 77, .call ⟨.value (.func 84), #[.tmp 76], #[56]⟩, none, false, [], false⟩])
 (.reg false [
 ⟨some 78, .move (.tmp 6), none, false, [], false⟩,
 ⟨some 79, .move (.tmp 10), none, false, [], false⟩,
 ⟨some 80, .indexAddr 51 (.tmp 78) (.tmp 79), none, false, [], false⟩,
 ⟨some 81, .load 56 (.tmp 80), none, false, [], false⟩,
 ⟨some 82, .call ⟨.value (.func 84), #[.tmp 81], #[56]⟩, none, false, [], false⟩])))
 (.reg false [
 ⟨some 71, .move (.tmp 10), none, false, [], false⟩,
 ⟨some 72, .binOp .add 3 (.tmp 71) (.const (.int .i64 1)) 3, none, false, [], false⟩,
 ⟨some 10, .assign (.tmp 72), none, false, [], false⟩]))))))
 (.seq
 (.seq
 (.reg false [
 ⟨some 11, .assign (.const (.int .i64 0)), none, false, [], false⟩])
 (.block 4
 (.loop
 (.seq
 (.seq
 (.reg false [
 ⟨some 83, .move (.tmp 11), none, false, [], false⟩,
 ⟨some 84, .move (.tmp 9), none, false, [], false⟩,
 ⟨some 85, .call ⟨.builtin .len, #[.tmp 84], #[51]⟩, none, false, [], false⟩,
 ⟨some 86, .binOp .lss 3 (.tmp 83) (.tmp 85) 3, none, false, [], false⟩])
 (.cond (.tmp 86)
 .skip
 (.exit 4)))
 (.seq
 (.block 5
 (.reg false [
 ⟨some 89, .move (.tmp 9), none, false, [], false⟩,
 ⟨some 90, .move (.tmp 11), none, false, [], false⟩,
 ⟨some 91, .indexAddr 51 (.tmp 89) (.tmp 90), none, false, [], false⟩,
 ⟨some 92, .load 56 (.tmp 91), none, false, [], false⟩,
 ⟨some 93, .call ⟨.value (.func 84), #[.tmp 92], #[56]⟩, none, false, [], false⟩]))
 (.reg false [
 ⟨some 87, .move (.tmp 11), none, false, [], false⟩,
 ⟨some 88, .binOp .add 3 (.tmp 87) (.const (.int .i64 1)) 3, none, false, [], false⟩,
 ⟨some 11, .assign (.tmp 88), none, false, [], false⟩]))))))
 (.seq
 (.reg false [
 ⟨some 95, .load 25 (.tmp 4), none, false, [], false⟩,
 ⟨some 96, .call ⟨.value (.func 25), #[.tmp 95], #[25]⟩, none, false, [], false⟩,
 ⟨some 94, .move (.tmp 96), none, false, [], false⟩,
 ⟨some 97, .extract (.tmp 94) 0, none, false, [], false⟩,
 ⟨some 98, .extract (.tmp 94) 1, none, false, [], false⟩,
 ⟨some 12, .assign (.tmp 97), none, false, [], false⟩,
 ⟨some 13, .assign (.tmp 98), none, false, [], false⟩])
 (.seq
 (.reg true [
 ⟨some 99, .move (.tmp 12), none, false, [], false⟩,
 ⟨some 100, .move (.tmp 7), none, false, [], false⟩,
 ⟨some 101, .call ⟨.value (.func 82), #[.tmp 99, .tmp 100], #[51, 51]⟩, none, false, [true, true, true, true, true, true, true, true, true, true, true, true, true, true, true, true, true], false⟩,
 ⟨some 102, .unOp .not 4 (.tmp 101), none, false, [], false⟩,
 ⟨some 103, .move (.tmp 102), none, false, [], false⟩,
 ⟨some 104, .move (.tmp 13), some (some 103, false), false, [], false⟩,
 ⟨some 105, .move (.tmp 8), some (some 103, false), false, [], false⟩,
 ⟨some 106, .call ⟨.value (.func 82), #[.tmp 104, .tmp 105], #[51, 51]⟩, some (some 103, false), false, [true, true, true, true, true, true, true, true, true, true, true, true], false⟩,
 ⟨some 107, .unOp .not 4 (.tmp 106), some (some 103, false), false, [], false⟩,
 ⟨some 108, .pick (.tmp 103) (.const (.bool true)) (.tmp 107), none, false, [], false⟩,
 ⟨some 109, .move (.tmp 108), none, false, [], false⟩,
 ⟨some 110, .load 25 (.tmp 4), some (some 109, false), false, [], false⟩,
 ⟨some 111, .fieldAddr 36 (.tmp 1) 1, some (some 109, false), false, [], false⟩,
 ⟨some 112, .load 33 (.tmp 111), some (some 109, false), false, [], false⟩,
 ⟨some 113, .move (.tmp 3), some (some 109, false), false, [], false⟩,
 ⟨some 114, .indexAddr 33 (.tmp 112) (.tmp 113), some (some 109, false), false, [], false⟩,
 ⟨some 115, .load 25 (.tmp 114), some (some 109, false), false, [], false⟩,
 ⟨some 116, .call ⟨.value (.func 16), #[.tmp 110, .tmp 115], #[25, 25]⟩, some (some 109, false), false, [true, true], false⟩,
 ⟨some 117, .unOp .not 4 (.tmp 116), some (some 109, false), false, [], false⟩,
 ⟨some 118, .pick (.tmp 109) (.const (.bool true)) (.tmp 117), none, false, [], false⟩])
 (.cond (.tmp 118)
 (.seq
 (.reg false [
 ⟨some 2, .assign (.const (.bool false)), none, false, [], false⟩])
 .ret)
 .skip)))))))))))
 (.reg false [
 ⟨some 22, .move (.tmp 3), none, false, [], false⟩,
 ⟨some 23, .binOp .add 3 (.tmp 22) (.const (.int .i64 1)) 3, none, false, [], false⟩,
 ⟨some 3, .assign (.tmp 23), none, false, [], false⟩]))))))
 (.seq
 (.reg false [
 ⟨some 119, .call ⟨.value (.func 31), #[], #[]⟩, none, false, [], false⟩,
 ⟨some 2, .assign (.tmp 119), none, false, [], false⟩])
 .ret))))
noncomputable def fi28 : FI := ⟨c28, 120, [.tmp 2], .plain⟩
noncomputable def c29 : XC :=
 (.seq
 (.reg false [
 ⟨some 1, .box 36 (.tmp 0), none, false, [], false⟩,
 ⟨some 2, .assign (.const (.bool false)), none, false, [], false⟩])
 (.seq
 (.seq
 (.reg false [
 ⟨some 12, .load 36 (.tmp 1), none, false, [], false⟩,
 ⟨some 13, .call ⟨.value (.func 55), #[.tmp 12], #[36]⟩, none, false, [], false⟩])
 (.cond (.tmp 13)
 (.seq
 (.reg false [
 ⟨some 14, .call ⟨.value (.func 31), #[], #[]⟩, none, false, [], false⟩,
 ⟨some 2, .assign (.tmp 14), none, false, [], false⟩])
 .ret)
 .skip))
 (.seq
 (.seq
 (.reg false [
 ⟨some 3, .assign (.const (.int .i64 0)), none, false, [], false⟩])
 (.block 0
 (.loop
 (.seq
 (.seq
 (.reg false [
 ⟨some 15, .move (.tmp 3), none, false, [], false⟩,
 ⟨some 16, .fieldAddr 36 (.tmp 1) 1, none, false, [], false⟩,
 ⟨some 17, .load 33 (.tmp 16), none, false, [], false⟩,
 ⟨some 18, .call ⟨.builtin .len, #[.tmp 17], #[33]⟩, none, false, [], false⟩,
 ⟨some 19, .binOp .lss 3 (.tmp 15) (.tmp 18) 3, none, false, [], false⟩])
 (.cond (.tmp 19)
 .skip
 (.exit 0)))
 (.seq
 (.block 1
 (.seq
 (.reg false [
 ⟨some 22, .fieldAddr 36 (.tmp 1) 1, none, false, [], false⟩,
 ⟨some 23, .load 33 (.tmp 22), none, false, [], false⟩,
 ⟨some 24, .move (.tmp 3), none, false, [], false⟩,
 ⟨some 25, .indexAddr 33 (.tmp 23) (.tmp 24), none, false, [], false⟩,
 ⟨some 26, .load 25 (.tmp 25), none, false, [], false⟩,
 ⟨some 4, .alloc 25, none, false, [], false⟩,
 ⟨none, .store 25 (.tmp 4) (.tmp 26), none, false, [], false⟩])
 (.seq
 (.reg false [
 ⟨some 27, .load 25 (.tmp 4), none, false, [], false⟩,
 ⟨some 28, .call ⟨.value (.func 26), #[.tmp 27], #[25]⟩, none, false, [], false⟩,
 ⟨some 5, .assign (.tmp 28), none, false, [], false⟩])
 (.seq
 (.reg false [
 ⟨some 30, .load 25 (.tmp 4), none, false, [], false⟩,
 ⟨some 31, .call ⟨.value (.func 25), #[.tmp 30], #[25]⟩, none, false, [], false⟩,
 ⟨some 29, .move (.tmp 31), none, false, [], false⟩,
 ⟨some 32, .extract (.tmp 29) 0, none, false, [], false⟩,
 ⟨some 33, .extract (.tmp 29) 1, none, false, [], false⟩,
 ⟨some 6, .assign (.tmp 32), none, false, [], false⟩,
 ⟨some 7, .assign (.tmp 33), none, false, [], false⟩])
 (.seq
 (.seq
 (.reg false [
 ⟨some 34, .move (.tmp 5), none, false, [], false⟩,
 ⟨some 35, .call ⟨.builtin .len, #[.tmp 34], #[51]⟩, none, false, [], false⟩,
 ⟨some 36, .fieldAddr 25 (.tmp 4) 3, none, false, [], false⟩,
 ⟨some 37, .load 22 (.tmp 36), none, false, [], false⟩,
 ⟨some 38, .call ⟨.builtin .len, #[.tmp 37], #[22]⟩, none, false, [], false⟩,
 ⟨some 39, .binOp .neq 3 (.tmp 35) (.tmp 38) 3, none, false, [], false⟩,
 ⟨some 40, .move (.tmp 39), none, false, [], false⟩,
 ⟨some 41, .move (.tmp 6), some (some 40, false), false, [], false⟩,
 ⟨some 42, .call ⟨.builtin .len, #[.tmp 41], #[51]⟩, some (some 40, false), false, [], false⟩,
 ⟨some 43, .fieldAddr 25 (.tmp 4) 4, some (some 40, false), false, [], false⟩,
 ⟨some 44, .load 23 (.tmp 43), some (some 40, false), false, [], false⟩,
 ⟨some 45, .call ⟨.builtin .len, #[.tmp 44], #[23]⟩, some (some 40, false), false, [], false⟩,
 ⟨some 46, .binOp .neq 3 (.tmp 42) (.tmp 45) 3, some (some 40, false), false, [], false⟩,
 ⟨some 47, .pick (.tmp 40) (.const (.bool true)) (.tmp 46), none, false, [], false⟩])
 (.cond (.tmp 47)
 (.seq
 (.reg false [
 ⟨some 2, .assign (.const (.bool false)), none, false, [], false⟩])
 .ret)
 .skip))
 (.seq
 (.seq
 (.reg false [
 ⟨some 8, .assign (.const (.int .i64 0)), none, false, [], false⟩])
 (.block 2
 (.loop
 (.seq
 (.seq
 (.reg false [
 ⟨some 48, .move (.tmp 8), none, false, [], false⟩,
 ⟨some 49, .move (.tmp 5), none, false, [], false⟩,
 ⟨some 50, .call ⟨.builtin .len, #[.tmp 49], #[51]⟩, none, false, [], false⟩,
 ⟨some 51, .binOp .lss 3 (.tmp 48) (.tmp 50) 3, none, false, [], false⟩])
 (.cond (.tmp 51)
 .skip
 (.exit 2)))
 (.seq
 (.block 3
 (.seq
 (.reg false [
 ⟨some 54, .move (.tmp 5), none, false, [], false⟩,
 ⟨some 55, .move (.tmp 8), none, false, [], false⟩,
 ⟨some 56, .indexAddr 51 (.tmp 54) (.tmp 55), none, false, [], false⟩,
 ⟨some 57, .load 56 (.tmp 56), none, false, [], false⟩,
 ⟨some 58, .call ⟨.builtin .len, #[.tmp 57], #[56]⟩, none, false, [], false⟩,
 ⟨some 59, .move (.tmp 5), none, false, [], false⟩,
 ⟨some 60, .call ⟨.builtin .len, #[.tmp 59], #[51]⟩, none, false, [], false⟩,
 ⟨some 61, .binOp .neq 3 (.tmp 58) (.tmp 60) 3, none, false, [], false⟩,
 ⟨some 62, .move (.tmp 61), none, false, [], false⟩,
 ⟨some 63, .move (.tmp 5), some (some 62, false), false, [], false⟩,
 ⟨some 64, .move (.tmp 8), some (some 62, false), false, [], false⟩,
 ⟨some 65, .indexAddr 51 (.tmp 63) (.tmp 64), some (some 62, false), false, [], false⟩,
 ⟨some 66, .load 56 (.tmp 65), some (some 62, false), false, [], false⟩,
 ⟨some 67, .move (.tmp 8), some (some 62, false), false, [], false⟩,
 ⟨some 68, .indexAddr 56 (.tmp 66) (.tmp 67), some (some 62, false), false, [], false⟩,
 ⟨some 69, .load 4 (.tmp 68), some (some 62, false), false, [], false⟩,
 ⟨some 70, .pick (.tmp 62) (.const (.bool true)) (.tmp 69), none, false, [], false⟩])
 (.cond (.tmp 70)
 (.seq
 (.reg false [
 ⟨some 2, .assign (.const (.bool false)), none, false, [], false⟩])
 .ret)
 .skip)))
 (.reg false [
 ⟨some 52, .move (.tmp 8), none, false, [], false⟩,
 ⟨some 53, .binOp .add 3 (.tmp 52) (.const (.int .i64 1)) 3, none, false, [], false⟩,
 ⟨some 8, .assign (.tmp 53), none, false, [], false⟩]))))))
 (.seq
 (.reg false [
 ⟨some 9, .assign (.const (.int .i64 0)), none, false, [], false⟩])
 (.block 4
 (.loop
 (.seq
 (.seq
 (.reg false [
 ⟨some 71, .move (.tmp 9), none, false, [], false⟩,
 ⟨some 72, .move (.tmp 5), none, false, [], false⟩,
 ⟨some 73, .call ⟨.builtin .len, #[.tmp 72], #[51]⟩, none, false, [], false⟩,
 ⟨some 74, .binOp .lss 3 (.tmp 71) (.tmp 73) 3, none, false, [], false⟩])
 (.cond (.tmp 74)
 .skip
 (.exit 4)))
 (.seq
 (.block 5
 (.seq
 (.reg false [
 ⟨some 10, .assign (.const (.int .i64 0)), none, false, [], false⟩])
 (.block 6
 (.loop
 (.seq
 (.seq
 (.reg false [
 ⟨some 77, .move (.tmp 10), none, false, [], false⟩,
 ⟨some 78, .move (.tmp 5), none, false, [], false⟩,
 ⟨some 79, .call ⟨.builtin .len, #[.tmp 78], #[51]⟩, none, false, [], false⟩,
 ⟨some 80, .binOp .lss 3 (.tmp 77) (.tmp 79) 3, none, false, [], false⟩])
 (.cond (.tmp 80)
 .skip
 (.exit 6)))
 (.seq
 (.block 7
 (.seq
 (.reg false [
 ⟨some 83, .move (.tmp 9), none, false, [], false⟩,
 ⟨some 84, .fieldAddr 25 (.tmp 4) 2, none, false, [], false⟩,
 ⟨some 85, .load 3 (.tmp 84), none, false, [], false⟩,
 ⟨some 86, .binOp .lss 3 (.tmp 83) (.tmp 85) 3, none, false, [], false⟩,
 ⟨some 87, .move (.tmp 86), none, false, [], false⟩,
 ⟨some 88, .move (.tmp 10), some (some 87, true), false, [], false⟩,
 ⟨some 89, .fieldAddr 25 (.tmp 4) 2, some (some 87, true), false, [], false⟩,
 ⟨some 90, .load 3 (.tmp 89), some (some 87, true), false, [], false⟩,
 ⟨some 91, .binOp .lss 3 (.tmp 88) (.tmp 90) 3, some (some 87, true), false, [], false⟩,
 ⟨some 92, .move (.tmp 91), some (some 87, true), false, [], false⟩,
 ⟨some 93, .move (.tmp 6), some (some 92, false), false, [], false⟩,
 ⟨some 94, .indexAddr 51 (.tmp 93) (.const (.int .i64 0)), some (some 92, false), false, [], false⟩,
 ⟨some 95, .load 56 (.tmp 94), some (some 92, false), false, [], false⟩,
 ⟨some 96, .move (.tmp 10), some (some 92, false), false, [], false⟩,
 ⟨some 97, .indexAddr 56 (.tmp 95) (.tmp 96), some (some 92, false), false, [], false⟩,
 ⟨some 98, .load 4 (.tmp 97), some (some 92, false), false, [], false⟩,
 ⟨some 99, .pick (.tmp 92) (.const (.bool true)) (.tmp 98), some (some 87, true), false, [], false⟩,
 ⟨some 100, .pick (.tmp 87) (.tmp 99) (.const (.bool false)), none, false, [], false⟩,
 ⟨some 11, .assign (.tmp 100), none, false, [], false⟩])
 (.seq
 (.reg true [
 ⟨some 101, .move (.tmp 5), none, false, [], false⟩,
 ⟨some 102, .move (.tmp 9), none, false, [], false⟩,
 ⟨some 103, .indexAddr 51 (.tmp 101) (.tmp 102), none, false, [], false⟩,
 ⟨some 104, .load 56 (.tmp 103), none, false, [], false⟩,
 ⟨some 105, .move (.tmp 10), none, false, [], false⟩,
 ⟨some 106, .indexAddr 56 (.tmp 104) (.tmp 105), none, false, [], false⟩,
 ⟨some 107, .load 4 (.tmp 106), none, false, [], false⟩,
 ⟨some 108, .move (.tmp 5), none, false, [], false⟩,
 ⟨some 109, .move (.tmp 10), none, false, [], false⟩,
 ⟨some 110, .indexAddr 51 (.tmp 108) (.tmp 109), none, false, [], false⟩,
 ⟨some 111, .load 56 (.tmp 110), none, false, [], false⟩,
 ⟨some 112, .move (.tmp 9), none, false, [], false⟩,
 ⟨some 113, .indexAddr 56 (.tmp 111) (.tmp 112), none, false, [], false⟩,
 ⟨some 114, .load 4 (.tmp 113), none, false, [], false⟩,
 ⟨some 115, .binOp .neq 4 (.tmp 107) (.tmp 114) 4, none, false, [], false⟩,
 ⟨some 116, .move (.tmp 115), none, false, [], false⟩,
 ⟨some 117, .move (.tmp 11), some (some 116, false), false, [], false⟩,
 ⟨some 118, .move (.tmp 117), some (some 116, false), false, [], false⟩,
 ⟨some 119, .move (.tmp 9), some (some 118, true), false, [], false⟩,
 ⟨some 120, .move (.tmp 10), some (some 118, true), false, [], false⟩,
 ⟨some 121, .binOp .neq 3 (.tmp 119) (.tmp 120) 3, some (some 118, true), false, [], false⟩,
 ⟨some 122, .pick (.tmp 118) (.tmp 121) (.const (.bool false)), some (some 116, false), false, [], false⟩,
 ⟨some 123, .move (.tmp 122), some (some 116, false), false, [], false⟩,
 ⟨some 124, .move (.tmp 5), some (some 123, true), false, [], false⟩,
 ⟨some 125, .move (.tmp 9), some (some 123, true), false, [], false⟩,
 ⟨some 126, .indexAddr 51 (.tmp 124) (.tmp 125), some (some 123, true), false, [], false⟩,
 ⟨some 127, .load 56 (.tmp 126), some (some 123, true), false, [], false⟩,
 ⟨some 128, .move (.tmp 10), some (some 123, true), false, [], false⟩,
 ⟨some 129, .indexAddr 56 (.tmp 127) (.tmp 128), some (some 123, true), false, [], false⟩,
 ⟨some 130, .load 4 (.tmp 129), some (some 123, true), false, [], false⟩,
 ⟨some 131, .unOp .not 4 (.tmp 130), some (some 123, true), false, [], false⟩,
 ⟨some 132, .pick (.tmp 123) (.tmp 131) (.const (.bool false)), some (some 116, false), false, [], false⟩,
 ⟨some 133, .pick (.tmp 116) (.const (.bool true)) (.tmp 132), none, false, [], false⟩])
 (.cond (.tmp 133)
 (.seq
 (.reg false [
 ⟨some 2, .assign (.const (.bool false)), none, false, [], false⟩])
 .ret)
 .skip))))
 (.reg false [
 ⟨some 81, .move (.tmp 10), none, false, [], false⟩,
 ⟨some 82, .binOp .add 3 (.tmp 81) (.const (.int .i64 1)) 3, none, false, [], false⟩,
 ⟨some 10, .assign (.tmp 82), none, false, [], false⟩])))))))
 (.reg false [
 ⟨some 75, .move (.tmp 9), none, false, [], false⟩,
 ⟨some 76, .binOp .add 3 (.tmp 75) (.const (.int .i64 1)) 3, none, false, [], false⟩,
 ⟨some 9, .assign (.tmp 76), none, false, [], false⟩]))))))))))))
 (.reg false [
 ⟨some 20, .move (.tmp 3), none, false, [], false⟩,
 ⟨some 21, .binOp .add 3 (.tmp 20) (.const (.int .i64 1)) 3, none, false, [], false⟩,
 ⟨some 3, .assign (.tmp 21), none, false, [], false⟩]))))))
 (.seq
 (.reg false [
 ⟨some 134, .call ⟨.value (.func 31), #[], #[]⟩, none, false, [], false⟩,
 ⟨some 2, .assign (.tmp 134), none, false, [], false⟩])
 .ret))))
noncomputable def fi29 : FI := ⟨c29, 135, [.tmp 2], .plain⟩
noncomputable def c30 : XC :=
 (.seq
 (.reg false [
 ⟨some 2, .box 36 (.tmp 0), none, false, [], false⟩,
 ⟨some 3, .box 59 (.tmp 1), none, false, [], false⟩,
 ⟨some 4, .assign (.const (.bool false)), none, false, [], false⟩])
 (.seq
 (.seq
 (.reg false [
 ⟨some 16, .load 36 (.tmp 2), none, false, [], false⟩,
 ⟨some 17, .call ⟨.value (.func 55), #[.tmp 16], #[36]⟩, none, false, [], false⟩,
 ⟨some 18, .move (.tmp 17), none, false, [], false⟩,
 ⟨some 19, .fieldAddr 59 (.tmp 3) 5, some (some 18, false), false, [], false⟩,
 ⟨some 20, .load 22 (.tmp 19), some (some 18, false), false, [], false⟩,
 ⟨some 21, .call ⟨.builtin .len, #[.tmp 20], #[22]⟩, some (some 18, false), false, [], false⟩,
 ⟨some 22, .binOp .gtr 3 (.tmp 21) (.const (.int .i64 1000)) 3, some (some 18, false), false, [], false⟩,
 ⟨some 23, .pick (.tmp 18) (.const (.bool true)) (.tmp 22), none, false, [], false⟩])
 (.cond (.tmp 23)
 (.seq
 (.reg false [
 ⟨some 24, .call ⟨.value (.func 31), #[], #[]⟩, none, false, [], false⟩,
 ⟨some 4, .assign (.tmp 24), none, false, [], false⟩])
 .ret)
 .skip))
 (.seq
 (.reg false [
 ⟨some 25, .fieldAddr 59 (.tmp 3) 0, none, false, [], false⟩,
 ⟨some 26, .load 3 (.tmp 25), none, false, [], false⟩,
 ⟨some 27, .fieldAddr 36 (.tmp 2) 1, none, false, [], false⟩,
 ⟨some 28, .load 33 (.tmp 27), none, false, [], false⟩,
 ⟨some 29, .call ⟨.builtin .len, #[.tmp 28], #[33]⟩, none, false, [], false⟩,
 ⟨some 30, .call ⟨.value (.func 60), #[.tmp 26, .tmp 29], #[3, 3]⟩, none, false, [], false⟩,
 ⟨some 5, .assign (.tmp 30), none, false, [], false⟩])
 (.seq
 (.reg false [
 ⟨some 31, .fieldAddr 36 (.tmp 2) 1, none, false, [], false⟩,
 ⟨some 32, .load 33 (.tmp 31), none, false, [], false⟩,
 ⟨some 33, .move (.tmp 5), none, false, [], false⟩,
 ⟨some 34, .indexAddr 33 (.tmp 32) (.tmp 33), none, false, [], false⟩,
 ⟨some 35, .load 25 (.tmp 34), none, false, [], false⟩,
 ⟨some 6, .alloc 25, none, false, [], false⟩,
 ⟨none, .store 25 (.tmp 6) (.tmp 35), none, false, [], false⟩])
 (.seq
 (.seq
 (.reg false [
 ⟨some 36, .fieldAddr 25 (.tmp 6) 3, none, false, [], false⟩,
 ⟨some 37, .load 22 (.tmp 36), none, false, [], false⟩,
 ⟨some 38, .call ⟨.builtin .len, #[.tmp 37], #[22]⟩, none, false, [], false⟩,
 ⟨some 39, .binOp .eql 3 (.tmp 38) (.const (.int .i64 0)) 3, none, false, [], false⟩])
 (.cond (.tmp 39)
 (.seq
 (.reg false [
 ⟨some 40, .call ⟨.value (.func 31), #[], #[]⟩, none, false, [], false⟩,
 ⟨some 4, .assign (.tmp 40), none, false, [], false⟩])
 .ret)
 .skip))
 (.seq
 (.reg false [
 ⟨some 41, .fieldAddr 59 (.tmp 3) 1, none, false, [], false⟩,
 ⟨some 42, .load 3 (.tmp 41), none, false, [], false⟩,
 ⟨some 43, .fieldAddr 25 (.tmp 6) 4, none, false, [], false⟩,
 ⟨some 44, .load 23 (.tmp 43), none, false, [], false⟩,
 ⟨some 45, .call ⟨.builtin .len, #[.tmp 44], #[23]⟩, none, false, [], false⟩,
 ⟨some 46, .call ⟨.value (.func 60), #[.tmp 42, .tmp 45], #[3, 3]⟩, none, false, [], false⟩,
 ⟨some 7, .assign (.tmp 46), none, false, [], false⟩])
 (.seq
 (.reg false [
 ⟨some 47, .fieldAddr 59 (.tmp 3) 2, none, false, [], false⟩,
 ⟨some 48, .load 3 (.tmp 47), none, false, [], false⟩,
 ⟨some 49, .fieldAddr 25 (.tmp 6) 3, none, false, [], false⟩,
 ⟨some 50, .load 22 (.tmp 49), none, false, [], false⟩,
 ⟨some 51, .call ⟨.builtin .len, #[.tmp 50], #[22]⟩, none, false, [], false⟩,
 ⟨some 52, .call ⟨.value (.func 60), #[.tmp 48, .tmp 51], #[3, 3]⟩, none, false, [], false⟩,
 ⟨some 8, .assign (.tmp 52), none, false, [], false⟩])
 (.seq
 (.reg false [
 ⟨some 54, .load 25 (.tmp 6), none, false, [], false⟩,
 ⟨some 55, .call ⟨.value (.func 25), #[.tmp 54], #[25]⟩, none, false, [], false⟩,
 ⟨some 53, .move (.tmp 55), none, false, [], false⟩,
 ⟨some 56, .extract (.tmp 53) 0, none, false, [], false⟩,
 ⟨some 57, .extract (.tmp 53) 1, none, false, [], false⟩,
 ⟨some 9, .assign (.tmp 56), none, false, [], false⟩,
 ⟨some 10, .assign (.tmp 57), none, false, [], false⟩])
 (.seq
 (.seq
 (.reg true [
 ⟨some 58, .move (.tmp 9), none, false, [], false⟩,
 ⟨some 59, .call ⟨.builtin .len, #[.tmp 58], #[51]⟩, none, false, [], false⟩,
 ⟨some 60, .fieldAddr 25 (.tmp 6) 4, none, false, [], false⟩,
 ⟨some 61, .load 23 (.tmp 60), none, false, [], false⟩,
 ⟨some 62, .call ⟨.builtin .len, #[.tmp 61], #[23]⟩, none, false, [], false⟩,
 ⟨some 63, .binOp .neq 3 (.tmp 59) (.tmp 62) 3, none, false, [], false⟩,
 ⟨some 64, .move (.tmp 63), none, false, [], false⟩,
 ⟨some 65, .move (.tmp 9), some (some 64, false), false, [], false⟩,
 ⟨some 66, .move (.tmp 7), some (some 64, false), false, [], false⟩,
 ⟨some 67, .indexAddr 51 (.tmp 65) (.tmp 66), some (some 64, false), false, [], false⟩,
 ⟨some 68, .load 56 (.tmp 67), some (some 64, false), false, [], false⟩,
 ⟨some 69, .call ⟨.builtin .len, #[.tmp 68], #[56]⟩, some (some 64, false), false, [], false⟩,
 ⟨some 70, .fieldAddr 25 (.tmp 6) 3, some (some 64, false), false, [], false⟩,
 ⟨some 71, .load 22 (.tmp 70), some (some 64, false), false, [], false⟩,
 ⟨some 72, .call ⟨.builtin .len, #[.tmp 71], #[22]⟩, some (some 64, false), false, [], false⟩,
 ⟨some 73, .binOp .neq 3 (.tmp 69) (.tmp 72) 3, some (some 64, false), false, [], false⟩,
 ⟨some 74, .pick (.tmp 64) (.const (.bool true)) (.tmp 73), none, false, [], false⟩])
 (.cond (.tmp 74)
 (.seq
 (.reg false [
 ⟨some 4, .assign (.const (.bool false)), none, false, [], false⟩])
 .ret)
 .skip))
 (.seq
 (.seq
 (.reg false [
 ⟨some 75, .move (.tmp 9), none, false, [], false⟩,
 ⟨some 76, .move (.tmp 7), none, false, [], false⟩,
 ⟨some 77, .indexAddr 51 (.tmp 75) (.tmp 76), none, false, [], false⟩,
 ⟨some 78, .load 56 (.tmp 77), none, false, [], false⟩,
 ⟨some 79, .move (.tmp 8), none, false, [], false⟩,
 ⟨some 80, .indexAddr 56 (.tmp 78) (.tmp 79), none, false, [], false⟩,
 ⟨some 81, .load 4 (.tmp 80), none, false, [], false⟩])
 (.cond (.tmp 81)
 (.seq
 (.reg false [
 ⟨some 82, .call ⟨.value (.func 31), #[], #[]⟩, none, false, [], false⟩,
 ⟨some 4, .assign (.tmp 82), none, false, [], false⟩])
 .ret)
 .skip))
 (.seq
 (.reg false [
 ⟨some 83, .load 36 (.tmp 2), none, false, [], false⟩,
 ⟨some 84, .call ⟨.value (.func 67), #[.tmp 83], #[36]⟩, none, false, [], false⟩,
 ⟨some 11, .alloc 36, none, false, [], false⟩,
 ⟨none, .store 36 (.tmp 11) (.tmp 84), none, false, [], false⟩])
 (.seq
 (.reg false [
 ⟨some 85, .move (.tmp 8), none, false, [], false⟩,
 ⟨some 86, .fieldAddr 59 (.tmp 3) 3, none, false, [], false⟩,
 ⟨some 87, .load 3 (.tmp 86), none, false, [], false⟩,
 ⟨some 88, .convert 3 21 (.tmp 87), none, false, [], false⟩,
 ⟨some 89, .convert 21 3 (.tmp 88), none, false, [], false⟩,
 ⟨some 90, .build 46 #[(0, .const (.int .i64 1)), (2, .tmp 85), (5, .tmp 89)], none, false, [], false⟩,
 ⟨some 91, .buildSlice 47 1 #[(0, .tmp 90)], none, false, [], false⟩,
 ⟨some 12, .assign (.tmp 91), none, false, [], false⟩])
 (.seq
 (.reg true [
 ⟨some 99, .move (.tmp 12), none, false, [], false⟩,
 ⟨some 100, .fieldAddr 36 (.tmp 11) 1, none, false, [], false⟩,
 ⟨some 101, .load 33 (.tmp 100), none, false, [], false⟩,
 ⟨some 102, .move (.tmp 5), none, false, [], false⟩,
 ⟨some 103, .indexAddr 33 (.tmp 101) (.tmp 102), none, false, [], false⟩,
 ⟨some 104, .fieldAddr 25 (.tmp 103) 4, none, false, [], false⟩,
 ⟨some 105, .load 23 (.tmp 104), none, false, [], false⟩,
 ⟨some 106, .move (.tmp 7), none, false, [], false⟩,
 ⟨some 107, .indexAddr 23 (.tmp 105) (.tmp 106), none, false, [], false⟩,
 ⟨some 108, .fieldAddr 49 (.tmp 107) 0, none, false, [], false⟩,
 ⟨some 109, .load 47 (.tmp 108), none, false, [], false⟩,
 ⟨some 110, .call ⟨.builtin .append, #[.tmp 99, .tmp 109], #[47, 47]⟩, none, true, [false, false, false, false, false, false, false, true, true, true], false⟩,
 ⟨some 92, .fieldAddr 36 (.tmp 11) 1, none, false, [], false⟩,
 ⟨some 93, .load 33 (.tmp 92), none, false, [], true⟩,
 ⟨some 94, .move (.tmp 5), none, false, [], false⟩,
 ⟨some 95, .indexAddr 33 (.tmp 93) (.tmp 94), none, false, [], false⟩,
 ⟨some 96, .fieldAddr 25 (.tmp 95) 4, none, false, [], false⟩,
 ⟨some 97, .load 23 (.tmp 96), none, false, [], true⟩,
 ⟨some 98, .move (.tmp 7), none, false, [], false⟩,
 ⟨some 111, .indexAddr 23 (.tmp 97) (.tmp 98), none, false, [], false⟩,
 ⟨some 112, .fieldAddr 49 (.tmp 111) 0, none, false, [], false⟩,
 ⟨none, .store 47 (.tmp 112) (.tmp 110), none, false, [], false⟩])
 (.seq
 (.reg false [
 ⟨some 113, .fieldAddr 59 (.tmp 3) 4, none, false, [], false⟩,
 ⟨some 114, .load 3 (.tmp 113), none, false, [], false⟩,
 ⟨some 115, .call ⟨.value (.func 60), #[.tmp 114, .const (.int .i64 3000)], #[3, 3]⟩, none, false, [], false⟩,
 ⟨some 13, .assign (.tmp 115), none, false, [], false⟩])
 (.seq
 (.reg false [
 ⟨some 116, .load 36 (.tmp 2), none, false, [], false⟩,
 ⟨some 117, .fieldAddr 59 (.tmp 3) 5, none, false, [], false⟩,
 ⟨some 118, .load 22 (.tmp 117), none, false, [], false⟩,
 ⟨some 119, .move (.tmp 13), none, false, [], false⟩,
 ⟨some 120, .call ⟨.value (.func 42), #[.tmp 116, .tmp 118, .tmp 119], #[36, 22, 3]⟩, none, false, [], false⟩,
 ⟨some 14, .alloc 66, none, false, [], false⟩,
 ⟨none, .store 66 (.tmp 14) (.tmp 120), none, false, [], false⟩])
 (.seq
 (.reg false [
 ⟨some 121, .load 36 (.tmp 11), none, false, [], false⟩,
 ⟨some 122, .fieldAddr 59 (.tmp 3) 5, none, false, [], false⟩,
 ⟨some 123, .load 22 (.tmp 122), none, false, [], false⟩,
 ⟨some 124, .move (.tmp 13), none, false, [], false⟩,
 ⟨some 125, .binOp .mul 3 (.const (.int .i64 2)) (.tmp 124) 3, none, false, [], false⟩,
 ⟨some 126, .binOp .add 3 (.tmp 125) (.const (.int .i64 1)) 3, none, false, [], false⟩,
 ⟨some 127, .call ⟨.value (.func 42), #[.tmp 121, .tmp 123, .tmp 126], #[36, 22, 3]⟩, none, false, [], false⟩,
 ⟨some 15, .alloc 66, none, false, [], false⟩,
 ⟨none, .store 66 (.tmp 15) (.tmp 127), none, false, [], false⟩])
 (.seq
 (.seq
 (.reg false [
 ⟨some 128, .load 36 (.tmp 11), none, false, [], false⟩,
 ⟨some 129, .call ⟨.value (.func 36), #[.tmp 128], #[36]⟩, none, false, [], false⟩,
 ⟨some 130, .binOp .neq 62 (.tmp 129) (.const (.int .i64 0)) 62, none, false, [], false⟩,
 ⟨some 131, .move (.tmp 130), none, false, [], false⟩,
 ⟨some 132, .fieldAddr 66 (.tmp 14) 1, some (some 131, false), false, [], false⟩,
 ⟨some 133, .load 3 (.tmp 132), some (some 131, false), false, [], false⟩,
 ⟨some 134, .binOp .neq 3 (.tmp 133) (.const (.int .i64 3)) 3, some (some 131, false), false, [], false⟩,
 ⟨some 135, .move (.tmp 134), some (some 131, false), false, [], false⟩,
 ⟨some 136, .load 66 (.tmp 14), some (some 135, true), false, [], false⟩,
 ⟨some 137, .load 66 (.tmp 15), some (some 135, true), false, [], false⟩,
 ⟨some 138, .call ⟨.value (.func 43), #[.tmp 136, .tmp 137], #[66, 66]⟩, some (some 135, true), false, [], false⟩,
 ⟨some 139, .unOp .not 4 (.tmp 138), some (some 135, true), false, [], false⟩,
 ⟨some 140, .pick (.tmp 135) (.tmp 139) (.const (.bool false)), some (some 131, false), false, [], false⟩,
 ⟨some 141, .pick (.tmp 131) (.const (.bool true)) (.tmp 140), none, false, [], false⟩])
 (.cond (.tmp 141)
 (.seq
 (.reg false [
 ⟨some 4, .assign (.const (.bool false)), none, false, [], false⟩])
 .ret)
 .skip))
 (.seq
 (.reg true [
 ⟨some 142, .fieldAddr 66 (.tmp 15) 0, none, false, [], false⟩,
 ⟨some 143, .load 22 (.tmp 142), none, false, [], false⟩,
 ⟨some 144, .call ⟨.builtin .len, #[.tmp 143], #[22]⟩, none, false, [], false⟩,
 ⟨some 145, .fieldAddr 66 (.tmp 14) 0, none, false, [], false⟩,
 ⟨some 146, .load 22 (.tmp 145), none, false, [], false⟩,
 ⟨some 147, .call ⟨.builtin .len, #[.tmp 146], #[22]⟩, none, false, [], false⟩,
 ⟨some 148, .binOp .geq 3 (.tmp 144) (.tmp 147) 3, none, false, [], false⟩,
 ⟨some 149, .move (.tmp 148), none, false, [], false⟩,
 ⟨some 150, .fieldAddr 66 (.tmp 15) 0, some (some 149, true), false, [], false⟩,
 ⟨some 151, .load 22 (.tmp 150), some (some 149, true), false, [], false⟩,
 ⟨some 152, .fieldAddr 66 (.tmp 14) 0, some (some 149, true), false, [], false⟩,
 ⟨some 153, .load 22 (.tmp 152), some (some 149, true), false, [], false⟩,
 ⟨some 154, .call ⟨.builtin .len, #[.tmp 153], #[22]⟩, some (some 149, true), false, [], false⟩,
 ⟨some 155, .slice 22 (.tmp 151) none (some (.tmp 154)) none, some (some 149, true), false, [], false⟩,
 ⟨some 156, .fieldAddr 66 (.tmp 14) 0, some (some 149, true), false, [], false⟩,
 ⟨some 157, .load 22 (.tmp 156), some (some 149, true), false, [], false⟩,
 ⟨some 158, .call ⟨.value (.func 61), #[.tmp 155, .tmp 157], #[22, 22]⟩, some (some 149, true), false, [true, true, true, true, true], false⟩,
 ⟨some 159, .pick (.tmp 149) (.tmp 158) (.const (.bool false)), none, false, [], false⟩,
 ⟨some 160, .move (.tmp 159), none, false, [], false⟩,
 ⟨some 161, .call ⟨.value (.func 31), #[], #[]⟩, some (some 160, true), false, [true, true], false⟩,
 ⟨some 162, .pick (.tmp 160) (.tmp 161) (.const (.bool false)), none, false, [], false⟩,
 ⟨some 4, .assign (.tmp 162), none, false, [], false⟩])
 .ret))))))))))))))))))
noncomputable def fi30 : FI := ⟨c30, 163, [.tmp 4], .plain⟩
noncomputable def c31 : XC :=
 (.seq
 (.reg false [
 ⟨some 0, .assign (.const (.bool false)), none, false, [], false⟩])
 (.seq
 (.reg false [
 ⟨some 10, .build 46 #[(0, .const (.int .i64 2)), (2, .const (.int .i64 1))], none, false, [], false⟩,
 ⟨some 11, .call ⟨.value (.func 85), #[.tmp 10], #[46]⟩, none, false, [], false⟩,
 ⟨some 1, .alloc 25, none, false, [], false⟩,
 ⟨none, .store 25 (.tmp 1) (.tmp 11), none, false, [], false⟩])
 (.seq
 (.reg false [
 ⟨some 12, .build 46 #[(0, .const (.int .i64 3)), (1, .const (.int .i64 1)), (6, .const (.string ⟨#[43]⟩)), (2, .const (.int .i64 1)), (3, .const (.int .i64 1))], none, false, [], false⟩,
 ⟨some 13, .call ⟨.value (.func 85), #[.tmp 12], #[46]⟩, none, false, [], false⟩,
 ⟨some 2, .alloc 25, none, false, [], false⟩,
 ⟨none, .store 25 (.tmp 2) (.tmp 13), none, false, [], false⟩])
 (.seq
 (.reg false [
 ⟨some 15, .load 25 (.tmp 1), none, false, [], false⟩,
 ⟨some 16, .call ⟨.value (.func 25), #[.tmp 15], #[25]⟩, none, false, [], false⟩,
 ⟨some 14, .move (.tmp 16), none, false, [], false⟩,
 ⟨some 17, .extract (.tmp 14) 0, none, false, [], false⟩,
 ⟨some 18, .extract (.tmp 14) 1, none, false, [], false⟩,
 ⟨some 3, .assign (.tmp 17), none, false, [], false⟩,
 ⟨some 4, .assign (.tmp 18), none, false, [], false⟩])
 (.seq
 (.reg false [
 ⟨some 20, .load 25 (.tmp 2), none, false, [], false⟩,
 ⟨some 21, .call ⟨.value (.func 25), #[.tmp 20], #[25]⟩, none, false, [], false⟩,
 ⟨some 19, .move (.tmp 21), none, false, [], false⟩,
 ⟨some 22, .extract (.tmp 19) 0, none, false, [], false⟩,
 ⟨some 23, .extract (.tmp 19) 1, none, false, [], false⟩,
 ⟨some 5, .assign (.tmp 22), none, false, [], false⟩,
 ⟨some 6, .assign (.tmp 23), none, false, [], false⟩])
 (.seq
 (.reg false [
 ⟨some 24, .load 25 (.tmp 1), none, false, [], false⟩,
 ⟨some 25, .call ⟨.value (.func 26), #[.tmp 24], #[25]⟩, none, false, [], false⟩,
 ⟨some 7, .assign (.tmp 25), none, false, [], false⟩])
 (.seq
 (.reg false [
 ⟨some 26, .load 25 (.tmp 2), none, false, [], false⟩,
 ⟨some 27, .call ⟨.value (.func 26), #[.tmp 26], #[25]⟩, none, false, [], false⟩,
 ⟨some 8, .assign (.tmp 27), none, false, [], false⟩])
 (.seq
 (.seq
 (.reg false [
 ⟨some 28, .move (.tmp 3), none, false, [], false⟩,
 ⟨some 29, .call ⟨.builtin .len, #[.tmp 28], #[51]⟩, none, false, [], false⟩,
 ⟨some 30, .binOp .neq 3 (.tmp 29) (.const (.int .i64 1)) 3, none, false, [], false⟩,
 ⟨some 31, .move (.tmp 30), none, false, [], false⟩,
 ⟨some 32, .move (.tmp 4), some (some 31, false), false, [], false⟩,
 ⟨some 33, .call ⟨.builtin .len, #[.tmp 32], #[51]⟩, some (some 31, false), false, [], false⟩,
 ⟨some 34, .binOp .neq 3 (.tmp 33) (.const (.int .i64 1)) 3, some (some 31, false), false, [], false⟩,
 ⟨some 35, .pick (.tmp 31) (.const (.bool true)) (.tmp 34), none, false, [], false⟩,
 ⟨some 36, .move (.tmp 35), none, false, [], false⟩,
 ⟨some 37, .move (.tmp 5), some (some 36, false), false, [], false⟩,
 ⟨some 38, .call ⟨.builtin .len, #[.tmp 37], #[51]⟩, some (some 36, false), false, [], false⟩,
 ⟨some 39, .binOp .neq 3 (.tmp 38) (.const (.int .i64 1)) 3, some (some 36, false), false, [], false⟩,
 ⟨some 40, .pick (.tmp 36) (.const (.bool true)) (.tmp 39), none, false, [], false⟩,
 ⟨some 41, .move (.tmp 40), none, false, [], false⟩,
 ⟨some 42, .move (.tmp 7), some (some 41, false), false, [], false⟩,
 ⟨some 43, .call ⟨.builtin .len, #[.tmp 42], #[51]⟩, some (some 41, false), false, [], false⟩,
 ⟨some 44, .binOp .neq 3 (.tmp 43) (.const (.int .i64 2)) 3, some (some 41, false), false, [], false⟩,
 ⟨some 45, .pick (.tmp 41) (.const (.bool true)) (.tmp 44), none, false, [], false⟩,
 ⟨some 46, .move (.tmp 45), none, false, [], false⟩,
 ⟨some 47, .move (.tmp 8), some (some 46, false), false, [], false⟩,
 ⟨some 48, .call ⟨.builtin .len, #[.tmp 47], #[51]⟩, some (some 46, false), false, [], false⟩,
 ⟨some 49, .binOp .neq 3 (.tmp 48) (.const (.int .i64 2)) 3, some (some 46, false), false, [], false⟩,
 ⟨some 50, .pick (.tmp 46) (.const (.bool true)) (.tmp 49), none, false, [], false⟩])
 (.cond (.tmp 50)
 (.seq
 (.reg false [
 ⟨some 0, .assign (.const (.bool false)), none, false, [], false⟩])
 .ret)
 .skip))
 (.seq
 (.reg false [
 ⟨some 51, .buildSlice 56 2 #[(0, .const (.bool false)), (1, .const (.bool false))], none, false, [], false⟩,
 ⟨some 9, .assign (.tmp 51), none, false, [], false⟩])
 (.seq
 (.reg false [
 ⟨some 52, .move (.tmp 3), none, false, [], false⟩,
 ⟨some 53, .indexAddr 51 (.tmp 52) (.const (.int .i64 0)), none, false, [], false⟩,
 ⟨some 54, .load 56 (.tmp 53), none, false, [], false⟩,
 ⟨some 55, .move (.tmp 9), none, false, [], false⟩,
 ⟨some 56, .call ⟨.value (.func 27), #[.tmp 54, .tmp 55], #[56, 56]⟩, none, false, [], false⟩,
 ⟨some 57, .move (.tmp 56), none, false, [], false⟩,
 ⟨some 58, .move (.tmp 4), some (some 57, true), false, [], false⟩,
 ⟨some 59, .indexAddr 51 (.tmp 58) (.const (.int .i64 0)), some (some 57, true), false, [], false⟩,
 ⟨some 60, .load 56 (.tmp 59), some (some 57, true), false, [], false⟩,
 ⟨some 61, .move (.tmp 9), some (some 57, true), false, [], false⟩,
 ⟨some 62, .call ⟨.value (.func 27), #[.tmp 60, .tmp 61], #[56, 56]⟩, some (some 57, true), false, [], false⟩,
 ⟨some 63, .pick (.tmp 57) (.tmp 62) (.const (.bool false)), none, false, [], false⟩,
 ⟨some 64, .move (.tmp 63), none, false, [], false⟩,
 ⟨some 65, .move (.tmp 5), some (some 64, true), false, [], false⟩,
 ⟨some 66, .indexAddr 51 (.tmp 65) (.const (.int .i64 0)), some (some 64, true), false, [], false⟩,
 ⟨some 67, .load 56 (.tmp 66), some (some 64, true), false, [], false⟩,
 ⟨some 68, .buildSlice 56 2 #[(0, .const (.bool false)), (1, .const (.bool true))], some (some 64, true), false, [], false⟩,
 ⟨some 69, .call ⟨.value (.func 27), #[.tmp 67, .tmp 68], #[56, 56]⟩, some (some 64, true), false, [], false⟩,
 ⟨some 70, .pick (.tmp 64) (.tmp 69) (.const (.bool false)), none, false, [], false⟩,
 ⟨some 71, .move (.tmp 70), none, false, [], false⟩,
 ⟨some 72, .move (.tmp 7), some (some 71, true), false, [], false⟩,
 ⟨some 73, .indexAddr 51 (.tmp 72) (.const (.int .i64 0)), some (some 71, true), false, [], false⟩,
 ⟨some 74, .load 56 (.tmp 73), some (some 71, true), false, [], false⟩,
 ⟨some 75, .move (.tmp 9), some (some 71, true), false, [], false⟩,
 ⟨some 76, .call ⟨.value (.func 27), #[.tmp 74, .tmp 75], #[56, 56]⟩, some (some 71, true), false, [], false⟩,
 ⟨some 77, .pick (.tmp 71) (.tmp 76) (.const (.bool false)), none, false, [], false⟩,
 ⟨some 78, .move (.tmp 77), none, false, [], false⟩,
 ⟨some 79, .move (.tmp 7), some (some 78, true), false, [], false⟩,
 ⟨some 80, .indexAddr 51 (.tmp 79) (.const (.int .i64 1)), some (some 78, true), false, [], false⟩,
 ⟨some 81, .load 56 (.tmp 80), some (some 78, true), false, [], false⟩,
 ⟨some 82, .move (.tmp 9), some (some 78, true), false, [], false⟩,
 ⟨some 83, .call ⟨.value (.func 27), #[.tmp 81, .tmp 82], #[56, 56]⟩, some (some 78, true), false, [], false⟩,
 ⟨some 84, .pick (.tmp 78) (.tmp 83) (.const (.bool false)), none, false, [], false⟩,
 ⟨some 85, .move (.tmp 84), none, false, [], false⟩,
 ⟨some 86, .move (.tmp 8), some (some 85, true), false, [], false⟩,
 ⟨some 87, .indexAddr 51 (.tmp 86) (.const (.int .i64 0)), some (some 85, true), false, [], false⟩,
 ⟨some 88, .load 56 (.tmp 87), some (some 85, true), false, [], false⟩,
 ⟨some 89, .buildSlice 56 2 #[(0, .const (.bool false)), (1, .const (.bool true))], some (some 85, true), false, [], false⟩,
 ⟨some 90, .call ⟨.value (.func 27), #[.tmp 88, .tmp 89], #[56, 56]⟩, some (some 85, true), false, [], false⟩,
 ⟨some 91, .pick (.tmp 85) (.tmp 90) (.const (.bool false)), none, false, [], false⟩,
 ⟨some 92, .move (.tmp 91), none, false, [], false⟩,
 ⟨some 93, .move (.tmp 8), some (some 92, true), false, [], false⟩,
 ⟨some 94, .indexAddr 51 (.tmp 93) (.const (.int .i64 1)), some (some 92, true), false, [], false⟩,
 ⟨some 95, .load 56 (.tmp 94), some (some 92, true), false, [], false⟩,
 ⟨some 96, .buildSlice 56 2 #[(0, .const (.bool true)), (1, .const (.bool false))], some (some 92, true), false, [], false⟩,
 ⟨some 97, .call ⟨.value (.func 27), #[.tmp 95, .tmp 96], #[56, 56]⟩, some (some 92, true), false, [], false⟩,
 ⟨some 98, .pick (.tmp 92) (.tmp 97) (.const (.bool false)), none, false, [], false⟩,
 ⟨some 0, .assign (.tmp 98), none, false, [], false⟩])
 .ret))))))))))
noncomputable def fi31 : FI := ⟨c31, 99, [.tmp 0], .plain⟩
noncomputable def c36 : XC :=
 (.seq
 (.reg false [
 ⟨some 1, .box 36 (.tmp 0), none, false, [], false⟩,
 ⟨some 2, .assign (.const (.int .i64 0)), none, false, [], false⟩])
 (.seq
 (.seq
 (.reg false [
 ⟨some 9, .fieldAddr 36 (.tmp 1) 0, none, false, [], false⟩,
 ⟨some 10, .load 34 (.tmp 9), none, false, [], false⟩,
 ⟨some 11, .call ⟨.builtin .len, #[.tmp 10], #[34]⟩, none, false, [], false⟩,
 ⟨some 12, .move (.const (.int .i64 0)), none, false, [], false⟩])
 (.block 0
 (.loop
 (.seq
 (.reg false [
 ⟨some 13, .binOp .lss 3 (.tmp 12) (.tmp 11) 3, none, false, [], false⟩])
 (.seq
 (.cond (.tmp 13)
 .skip
 (.exit 0))
 (.seq
 (.block 1
 (.seq
 (.reg false [
 ⟨some 14, .indexAddr 34 (.tmp 10) (.tmp 12), none, false, [], false⟩,
 ⟨some 15, .load 105 (.tmp 14), none, false, [], false⟩,
 ⟨some 4, .alloc 105, none, false, [], false⟩,
 ⟨none, .store 105 (.tmp 4) (.tmp 15), none, false, [], false⟩])
 (.seq
 (.reg false [
 ⟨some 16, .fieldAddr 105 (.tmp 4) 1, none, false, [], false⟩,
 ⟨some 17, .load 3 (.tmp 16), none, false, [], false⟩,
 ⟨some 18, .call ⟨.value (.func 86), #[.tmp 17], #[3]⟩, none, false, [], false⟩,
 ⟨some 19, .unOp .not 4 (.tmp 18), none, false, [], false⟩,
 ⟨some 20, .move (.tmp 19), none, false, [], false⟩,
 ⟨some 21, .fieldAddr 105 (.tmp 4) 1, some (some 20, true), false, [], false⟩,
 ⟨some 22, .load 3 (.tmp 21), some (some 20, true), false, [], false⟩,
 ⟨some 23, .binOp .neq 3 (.tmp 22) (.const (.int .i64 3)) 3, some (some 20, true), false, [], false⟩,
 ⟨some 24, .move (.tmp 23), some (some 20, true), false, [], false⟩,
 ⟨some 25, .fieldAddr 105 (.tmp 4) 2, some (some 24, false), false, [], false⟩,
 ⟨some 26, .load 3 (.tmp 25), some (some 24, false), false, [], false⟩,
 ⟨some 27, .binOp .lss 3 (.tmp 26) (.const (.int .i64 1)) 3, some (some 24, false), false, [], false⟩,
 ⟨some 28, .pick (.tmp 24) (.const (.bool true)) (.tmp 27), some (some 20, true), false, [], false⟩,
 ⟨some 29, .pick (.tmp 20) (.tmp 28) (.const (.bool false)), none, false, [], false⟩])
 (.cond (.tmp 29)
 (.seq
 (.reg false [
 ⟨some 2, .assign (.const (.int .i64 6)), none, false, [], false⟩])
 .ret)
 .skip))))
 (.reg false [
 ⟨some 30, .binOp .add 3 (.tmp 12) (.const (.int .i64 1)) 3, none, false, [], false⟩,
 ⟨some 12, .move (.tmp 30), none, false, [], false⟩])))))))
 (.seq
 (.seq
 (.reg false [
 ⟨some 31, .fieldAddr 36 (.tmp 1) 1, none, false, [], false⟩,
 ⟨some 32, .load 33 (.tmp 31), none, false, [], false⟩,
 ⟨some 33, .call ⟨.builtin .len, #[.tmp 32], #[33]⟩, none, false, [], false⟩,
 ⟨some 34, .move (.const (.int .i64 0)), none, false, [], false⟩])
 (.block 2
 (.loop
 (.seq
 (.reg false [
 ⟨some 35, .binOp .lss 3 (.tmp 34) (.tmp 33) 3, none, false, [], false⟩])
 (.seq
 (.cond (.tmp 35)
 .skip
 (.exit 2))
 (.seq
 (.block 3
 (.seq
 (.reg false [
 ⟨some 36, .indexAddr 33 (.tmp 32) (.tmp 34), none, false, [], false⟩,
 ⟨some 37, .load 25 (.tmp 36), none, false, [], false⟩,
 ⟨some 6, .alloc 25, none, false, [], false⟩,
 ⟨none, .store 25 (.tmp 6) (.tmp 37), none, false, [], false⟩])
 (.seq
 (.reg false [
 ⟨some 38, .load 36 (.tmp 1), none, false, [], false⟩,
 ⟨some 39, .load 25 (.tmp 6), none, false, [], false⟩,
 ⟨some 40, .build 107 #[(0, .tmp 38), (1, .tmp 39)], none, false, [], false⟩,
 ⟨some 41, .call ⟨.value (.func 87), #[.tmp 40], #[107]⟩, none, false, [], false⟩,
 ⟨some 7, .assign (.tmp 41), none, false, [], false⟩])
 (.seq
 (.reg false [
 ⟨some 42, .move (.tmp 7), none, false, [], false⟩,
 ⟨some 43, .binOp .neq 62 (.tmp 42) (.const (.int .i64 0)) 62, none, false, [], false⟩])
 (.cond (.tmp 43)
 (.seq
 (.reg false [
 ⟨some 44, .move (.tmp 7), none, false, [], false⟩,
 ⟨some 2, .assign (.tmp 44), none, false, [], false⟩])
 .ret)
 .skip)))))
 (.reg false [
 ⟨some 45, .binOp .add 3 (.tmp 34) (.const (.int .i64 1)) 3, none, false, [], false⟩,
 ⟨some 34, .move (.tmp 45), none, false, [], false⟩])))))))
 (.seq
 (.reg false [
 ⟨some 46, .load 36 (.tmp 1), none, false, [], false⟩,
 ⟨some 47, .call ⟨.value (.func 88), #[.tmp 46], #[36]⟩, none, false, [], false⟩,
 ⟨some 8, .assign (.tmp 47), none, false, [], false⟩])
 (.seq
 (.seq
 (.reg false [
 ⟨some 48, .move (.tmp 8), none, false, [], false⟩,
 ⟨some 49, .binOp .lss 3 (.tmp 48) (.const (.int .i64 0)) 3, none, false, [], false⟩,
 ⟨some 50, .move (.tmp 49), none, false, [], false⟩,
 ⟨some 51, .fieldAddr 36 (.tmp 1) 1, some (some 50, false), false, [], false⟩,
 ⟨some 52, .load 33 (.tmp 51), some (some 50, false), false, [], false⟩,
 ⟨some 53, .move (.tmp 8), some (some 50, false), false, [], false⟩,
 ⟨some 54, .indexAddr 33 (.tmp 52) (.tmp 53), some (some 50, false), false, [], false⟩,
 ⟨some 55, .fieldAddr 25 (.tmp 54) 1, some (some 50, false), false, [], false⟩,
 ⟨some 56, .load 3 (.tmp 55), some (some 50, false), false, [], false⟩,
 ⟨some 57, .binOp .neq 3 (.tmp 56) (.const (.int .i64 1)) 3, some (some 50, false), false, [], false⟩,
 ⟨some 58, .pick (.tmp 50) (.const (.bool true)) (.tmp 57), none, false, [], false⟩,
 ⟨some 59, .move (.tmp 58), none, false, [], false⟩,
 ⟨some 60, .fieldAddr 36 (.tmp 1) 1, some (some 59, false), false, [], false⟩,
 ⟨some 61, .load 33 (.tmp 60), some (some 59, false), false, [], false⟩,
 ⟨some 62, .move (.tmp 8), some (some 59, false), false, [], false⟩,
 ⟨some 63, .indexAddr 33 (.tmp 61) (.tmp 62), some (some 59, false), false, [], false⟩,
 ⟨some 64, .fieldAddr 25 (.tmp 63) 2, some (some 59, false), false, [], false⟩,
 ⟨some 65, .load 3 (.tmp 64), some (some 59, false), false, [], false⟩,
 ⟨some 66, .binOp .neq 3 (.tmp 65) (.const (.int .i64 0)) 3, some (some 59, false), false, [], false⟩,
 ⟨some 67, .pick (.tmp 59) (.const (.bool true)) (.tmp 66), none, false, [], false⟩])
 (.cond (.tmp 67)
 (.seq
 (.reg false [
 ⟨some 2, .assign (.const (.int .i64 12)), none, false, [], false⟩])
 .ret)
 .skip))
 (.seq
 (.reg false [
 ⟨some 2, .assign (.const (.int .i64 0)), none, false, [], false⟩])
 .ret))))))
noncomputable def fi36 : FI := ⟨c36, 68, [.tmp 2], .plain⟩
noncomputable def c42 : XC :=
 (.seq
 (.reg false [
 ⟨some 3, .box 36 (.tmp 0), none, false, [], false⟩,
 ⟨some 6, .alloc 66, none, false, [], false⟩])
 (.seq
 (.reg false [
 ⟨some 11, .load 36 (.tmp 3), none, false, [], false⟩,
 ⟨some 12, .move (.tmp 1), none, false, [], false⟩,
 ⟨some 13, .move (.tmp 2), none, false, [], false⟩,
 ⟨some 14, .build 116 #[(0, .tmp 11), (1, .tmp 12), (2, .tmp 13)], none, false, [], false⟩,
 ⟨some 15, .box 116 (.tmp 14), none, false, [], false⟩,
 ⟨some 7, .alloc 114, none, false, [], false⟩,
 ⟨none, .store 114 (.tmp 7) (.tmp 15), none, false, [], false⟩])
 (.seq
 (.seq
 (.reg false [
 ⟨some 16, .fieldAddr 36 (.tmp 3) 0, none, false, [], false⟩,
 ⟨some 17, .load 34 (.tmp 16), none, false, [], false⟩,
 ⟨some 18, .call ⟨.builtin .len, #[.tmp 17], #[34]⟩, none, false, [], false⟩,
 ⟨some 19, .move (.const (.int .i64 0)), none, false, [], false⟩])
 (.block 0
 (.loop
 (.seq
 (.reg false [
 ⟨some 20, .binOp .lss 3 (.tmp 19) (.tmp 18) 3, none, false, [], false⟩])
 (.seq
 (.cond (.tmp 20)
 .skip
 (.exit 0))
 (.seq
 (.block 1
 (.seq
 (.reg false [
 ⟨some 21, .indexAddr 34 (.tmp 17) (.tmp 19), none, false, [], false⟩,
 ⟨some 22, .load 105 (.tmp 21), none, false, [], false⟩,
 ⟨some 9, .alloc 105, none, false, [], false⟩,
 ⟨none, .store 105 (.tmp 9) (.tmp 22), none, false, [], false⟩])
 (.reg true [
 ⟨some 28, .fieldAddr 105 (.tmp 9) 2, none, false, [], false⟩,
 ⟨some 29, .load 3 (.tmp 28), none, false, [], false⟩,
 ⟨some 30, .call ⟨.builtin .max, #[.tmp 29, .const (.int .i64 1)], #[3, 3]⟩, none, false, [], false⟩,
 ⟨some 31, .makeSlice 22 (.tmp 30) (.tmp 30), none, false, [], false⟩,
 ⟨some 32, .buildSlice 87 1 #[(0, .tmp 31)], none, false, [], false⟩,
 ⟨some 24, .load 114 (.tmp 7), none, false, [], false⟩,
 ⟨some 25, .nilCheck (.tmp 24), none, false, [], false⟩,
 ⟨some 26, .fieldAddr 116 (.tmp 25) 3, none, false, [], false⟩,
 ⟨some 27, .load 87 (.tmp 26), none, false, [], false⟩,
 ⟨some 33, .call ⟨.builtin .append, #[.tmp 27, .tmp 32], #[87, 87]⟩, none, true, [false, true, true, true], false⟩,
 ⟨some 23, .load 114 (.tmp 7), none, false, [], true⟩,
 ⟨some 34, .nilCheck (.tmp 23), none, false, [], false⟩,
 ⟨some 35, .fieldAddr 116 (.tmp 34) 3, none, false, [], false⟩,
 ⟨none, .store 87 (.tmp 35) (.tmp 33), none, false, [], false⟩])))
 (.reg false [
 ⟨some 36, .binOp .add 3 (.tmp 19) (.const (.int .i64 1)) 3, none, false, [], false⟩,
 ⟨some 19, .move (.tmp 36), none, false, [], false⟩])))))))
 (.seq
 .bad
 (.seq
 (.reg true [
 ⟨some 39, .load 36 (.tmp 3), none, false, [], false⟩,
 ⟨some 40, .call ⟨.value (.func 88), #[.tmp 39], #[36]⟩, none, true, [false, true, true], false⟩,
 ⟨some 38, .load 114 (.tmp 7), none, false, [], true⟩,
 ⟨some 41, .call ⟨.value (.func 101), #[.tmp 38, .tmp 40, .const (.slice none 0 0)], #[114, 3, 22]⟩, none, false, [true], false⟩,
 ⟨some 10, .assign (.tmp 41), none, false, [], false⟩])
 (.seq
 (.reg false [
 ⟨some 42, .load 114 (.tmp 7), none, false, [], false⟩,
 ⟨some 43, .nilCheck (.tmp 42), none, false, [], false⟩,
 ⟨some 44, .fieldAddr 116 (.tmp 43) 4, none, false, [], false⟩,
 ⟨some 45, .fieldAddr 66 (.tmp 44) 0, none, false, [], false⟩,
 ⟨some 46, .load 22 (.tmp 45), none, false, [], false⟩,
 ⟨some 47, .move (.tmp 10), none, false, [], false⟩,
 ⟨some 48, .build 66 #[(0, .tmp 46), (1, .const (.int .i64 1)), (2, .tmp 47)], none, false, [], false⟩,
 ⟨none, .store 66 (.tmp 6) (.tmp 48), none, false, [], false⟩])
 .ret))))))
noncomputable def fi42 : FI := ⟨c42, 49, [.cell 6 66], .dfr [(.reg false [
 ⟨some 3, .box 36 (.tmp 0), none, false, [], false⟩,
 ⟨some 6, .alloc 66, none, false, [], false⟩]), (.reg false [
 ⟨some 11, .load 36 (.tmp 3), none, false, [], false⟩,
 ⟨some 12, .move (.tmp 1), none, false, [], false⟩,
 ⟨some 13, .move (.tmp 2), none, false, [], false⟩,
 ⟨some 14, .build 116 #[(0, .tmp 11), (1, .tmp 12), (2, .tmp 13)], none, false, [], false⟩,
 ⟨some 15, .box 116 (.tmp 14), none, false, [], false⟩,
 ⟨some 7, .alloc 114, none, false, [], false⟩,
 ⟨none, .store 114 (.tmp 7) (.tmp 15), none, false, [], false⟩]), (.seq
 (.reg false [
 ⟨some 16, .fieldAddr 36 (.tmp 3) 0, none, false, [], false⟩,
 ⟨some 17, .load 34 (.tmp 16), none, false, [], false⟩,
 ⟨some 18, .call ⟨.builtin .len, #[.tmp 17], #[34]⟩, none, false, [], false⟩,
 ⟨some 19, .move (.const (.int .i64 0)), none, false, [], false⟩])
 (.block 0
 (.loop
 (.seq
 (.reg false [
 ⟨some 20, .binOp .lss 3 (.tmp 19) (.tmp 18) 3, none, false, [], false⟩])
 (.seq
 (.cond (.tmp 20)
 .skip
 (.exit 0))
 (.seq
 (.block 1
 (.seq
 (.reg false [
 ⟨some 21, .indexAddr 34 (.tmp 17) (.tmp 19), none, false, [], false⟩,
 ⟨some 22, .load 105 (.tmp 21), none, false, [], false⟩,
 ⟨some 9, .alloc 105, none, false, [], false⟩,
 ⟨none, .store 105 (.tmp 9) (.tmp 22), none, false, [], false⟩])
 (.reg true [
 ⟨some 28, .fieldAddr 105 (.tmp 9) 2, none, false, [], false⟩,
 ⟨some 29, .load 3 (.tmp 28), none, false, [], false⟩,
 ⟨some 30, .call ⟨.builtin .max, #[.tmp 29, .const (.int .i64 1)], #[3, 3]⟩, none, false, [], false⟩,
 ⟨some 31, .makeSlice 22 (.tmp 30) (.tmp 30), none, false, [], false⟩,
 ⟨some 32, .buildSlice 87 1 #[(0, .tmp 31)], none, false, [], false⟩,
 ⟨some 24, .load 114 (.tmp 7), none, false, [], false⟩,
 ⟨some 25, .nilCheck (.tmp 24), none, false, [], false⟩,
 ⟨some 26, .fieldAddr 116 (.tmp 25) 3, none, false, [], false⟩,
 ⟨some 27, .load 87 (.tmp 26), none, false, [], false⟩,
 ⟨some 33, .call ⟨.builtin .append, #[.tmp 27, .tmp 32], #[87, 87]⟩, none, true, [false, true, true, true], false⟩,
 ⟨some 23, .load 114 (.tmp 7), none, false, [], true⟩,
 ⟨some 34, .nilCheck (.tmp 23), none, false, [], false⟩,
 ⟨some 35, .fieldAddr 116 (.tmp 34) 3, none, false, [], false⟩,
 ⟨none, .store 87 (.tmp 35) (.tmp 33), none, false, [], false⟩])))
 (.reg false [
 ⟨some 36, .binOp .add 3 (.tmp 19) (.const (.int .i64 1)) 3, none, false, [], false⟩,
 ⟨some 19, .move (.tmp 36), none, false, [], false⟩]))))))), (.reg false [
 ⟨some 37, .makeFunc (.func 100) #[] #[.tmp 7, .tmp 6], none, false, [], false⟩])] (.tmp 37) (.seq
 (.reg true [
 ⟨some 39, .load 36 (.tmp 3), none, false, [], false⟩,
 ⟨some 40, .call ⟨.value (.func 88), #[.tmp 39], #[36]⟩, none, true, [false, true, true], false⟩,
 ⟨some 38, .load 114 (.tmp 7), none, false, [], true⟩,
 ⟨some 41, .call ⟨.value (.func 101), #[.tmp 38, .tmp 40, .const (.slice none 0 0)], #[114, 3, 22]⟩, none, false, [true], false⟩,
 ⟨some 10, .assign (.tmp 41), none, false, [], false⟩])
 (.seq
 (.reg false [
 ⟨some 42, .load 114 (.tmp 7), none, false, [], false⟩,
 ⟨some 43, .nilCheck (.tmp 42), none, false, [], false⟩,
 ⟨some 44, .fieldAddr 116 (.tmp 43) 4, none, false, [], false⟩,
 ⟨some 45, .fieldAddr 66 (.tmp 44) 0, none, false, [], false⟩,
 ⟨some 46, .load 22 (.tmp 45), none, false, [], false⟩,
 ⟨some 47, .move (.tmp 10), none, false, [], false⟩,
 ⟨some 48, .build 66 #[(0, .tmp 46), (1, .const (.int .i64 1)), (2, .tmp 47)], none, false, [], false⟩,
 ⟨none, .store 66 (.tmp 6) (.tmp 48), none, false, [], false⟩])
 .ret))⟩
noncomputable def c43 : XC :=
 (.seq
 (.reg false [
 ⟨some 2, .box 66 (.tmp 0), none, false, [], false⟩,
 ⟨some 3, .box 66 (.tmp 1), none, false, [], false⟩,
 ⟨some 4, .assign (.const (.bool false)), none, false, [], false⟩])
 (.seq
 (.reg false [
 ⟨some 5, .fieldAddr 66 (.tmp 2) 1, none, false, [], false⟩,
 ⟨some 6, .load 3 (.tmp 5), none, false, [], false⟩,
 ⟨some 7, .fieldAddr 66 (.tmp 3) 1, none, false, [], false⟩,
 ⟨some 8, .load 3 (.tmp 7), none, false, [], false⟩,
 ⟨some 9, .binOp .eql 3 (.tmp 6) (.tmp 8) 3, none, false, [], false⟩,
 ⟨some 10, .move (.tmp 9), none, false, [], false⟩,
 ⟨some 11, .fieldAddr 66 (.tmp 2) 2, some (some 10, true), false, [], false⟩,
 ⟨some 12, .load 3 (.tmp 11), some (some 10, true), false, [], false⟩,
 ⟨some 13, .fieldAddr 66 (.tmp 3) 2, some (some 10, true), false, [], false⟩,
 ⟨some 14, .load 3 (.tmp 13), some (some 10, true), false, [], false⟩,
 ⟨some 15, .binOp .eql 3 (.tmp 12) (.tmp 14) 3, some (some 10, true), false, [], false⟩,
 ⟨some 16, .pick (.tmp 10) (.tmp 15) (.const (.bool false)), none, false, [], false⟩,
 ⟨some 17, .move (.tmp 16), none, false, [], false⟩,
 ⟨some 18, .fieldAddr 66 (.tmp 2) 0, some (some 17, true), false, [], false⟩,
 ⟨some 19, .load 22 (.tmp 18), some (some 17, true), false, [], false⟩,
 ⟨some 20, .fieldAddr 66 (.tmp 3) 0, some (some 17, true), false, [], false⟩,
 ⟨some 21, .load 22 (.tmp 20), some (some 17, true), false, [], false⟩,
 ⟨some 22, .call ⟨.value (.func 61), #[.tmp 19, .tmp 21], #[22, 22]⟩, some (some 17, true), false, [], false⟩,
 ⟨some 23, .pick (.tmp 17) (.tmp 22) (.const (.bool false)), none, false, [], false⟩,
 ⟨some 4, .assign (.tmp 23), none, false, [], false⟩])
 .ret))
noncomputable def fi43 : FI := ⟨c43, 24, [.tmp 4], .plain⟩
noncomputable def c51 : XC :=
 (.seq
 (.reg false [
 ⟨some 2, .assign (.const (.slice none 0 0)), none, false, [], false⟩])
 (.seq
 (.seq
 (.reg false [
 ⟨some 3, .move (.tmp 0), none, false, [], false⟩,
 ⟨some 4, .binOp .eql 22 (.tmp 3) (.const (.slice none 0 0)) 22, none, false, [], false⟩])
 (.cond (.tmp 4)
 (.seq
 (.reg false [
 ⟨some 2, .assign (.const (.slice none 0 0)), none, false, [], false⟩])
 .ret)
 .skip))
 (.seq
 (.reg false [
 ⟨some 5, .buildSlice 22 0 #[], none, false, [], false⟩,
 ⟨some 6, .move (.tmp 0), none, false, [], false⟩,
 ⟨some 7, .call ⟨.builtin .append, #[.tmp 5, .tmp 6], #[22, 22]⟩, none, false, [], false⟩,
 ⟨some 2, .assign (.tmp 7), none, false, [], false⟩])
 .ret)))
noncomputable def fi51 : FI := ⟨c51, 8, [.tmp 2], .plain⟩
noncomputable def c55 : XC :=
 (.seq
 (.reg false [
 ⟨some 1, .box 36 (.tmp 0), none, false, [], false⟩,
 ⟨some 2, .assign (.const (.bool false)), none, false, [], false⟩])
 (.seq
 (.reg false [
 ⟨some 3, .assign (.const (.int .i64 0)), none, false, [], false⟩])
 (.seq
 (.seq
 (.reg false [
 ⟨some 4, .assign (.const (.int .i64 0)), none, false, [], false⟩])
 (.block 0
 (.loop
 (.seq
 (.seq
 (.reg false [
 ⟨some 6, .move (.tmp 4), none, false, [], false⟩,
 ⟨some 7, .fieldAddr 36 (.tmp 1) 1, none, false, [], false⟩,
 ⟨some 8, .load 33 (.tmp 7), none, false, [], false⟩,
 ⟨some 9, .call ⟨.builtin .len, #[.tmp 8], #[33]⟩, none, false, [], false⟩,
 ⟨some 10, .binOp .lss 3 (.tmp 6) (.tmp 9) 3, none, false, [], false⟩])
 (.cond (.tmp 10)
 .skip
 (.exit 0)))
 (.seq
 (.block 1
 (.seq
 (.reg true [
 ⟨some 13, .move (.tmp 3), none, false, [], false⟩,
 ⟨some 14, .fieldAddr 36 (.tmp 1) 1, none, false, [], false⟩,
 ⟨some 15, .load 33 (.tmp 14), none, false, [], false⟩,
 ⟨some 16, .move (.tmp 4), none, false, [], false⟩,
 ⟨some 17, .indexAddr 33 (.tmp 15) (.tmp 16), none, false, [], false⟩,
 ⟨some 18, .fieldAddr 25 (.tmp 17) 3, none, false, [], false⟩,
 ⟨some 19, .load 22 (.tmp 18), none, false, [], false⟩,
 ⟨some 20, .call ⟨.builtin .len, #[.tmp 19], #[22]⟩, none, false, [], false⟩,
 ⟨some 21, .binOp .add 3 (.tmp 13) (.tmp 20) 3, none, false, [], false⟩,
 ⟨some 22, .fieldAddr 36 (.tmp 1) 1, none, false, [], false⟩,
 ⟨some 23, .load 33 (.tmp 22), none, false, [], false⟩,
 ⟨some 24, .move (.tmp 4), none, false, [], false⟩,
 ⟨some 25, .indexAddr 33 (.tmp 23) (.tmp 24), none, false, [], false⟩,
 ⟨some 26, .fieldAddr 25 (.tmp 25) 4, none, false, [], false⟩,
 ⟨some 27, .load 23 (.tmp 26), none, false, [], false⟩,
 ⟨some 28, .call ⟨.builtin .len, #[.tmp 27], #[23]⟩, none, false, [], false⟩,
 ⟨some 29, .binOp .add 3 (.tmp 21) (.tmp 28) 3, none, false, [], false⟩,
 ⟨some 3, .assign (.tmp 29), none, false, [], false⟩])
 (.seq
 (.reg false [
 ⟨some 5, .assign (.const (.int .i64 0)), none, false, [], false⟩])
 (.block 2
 (.loop
 (.seq
 (.seq
 (.reg false [
 ⟨some 30, .move (.tmp 5), none, false, [], false⟩,
 ⟨some 31, .fieldAddr 36 (.tmp 1) 1, none, false, [], false⟩,
 ⟨some 32, .load 33 (.tmp 31), none, false, [], false⟩,
 ⟨some 33, .move (.tmp 4), none, false, [], false⟩,
 ⟨some 34, .indexAddr 33 (.tmp 32) (.tmp 33), none, false, [], false⟩,
 ⟨some 35, .fieldAddr 25 (.tmp 34) 4, none, false, [], false⟩,
 ⟨some 36, .load 23 (.tmp 35), none, false, [], false⟩,
 ⟨some 37, .call ⟨.builtin .len, #[.tmp 36], #[23]⟩, none, false, [], false⟩,
 ⟨some 38, .binOp .lss 3 (.tmp 30) (.tmp 37) 3, none, false, [], false⟩])
 (.cond (.tmp 38)
 .skip
 (.exit 2)))
 (.seq
 (.block 3
 (.reg false [
 ⟨some 41, .move (.tmp 3), none, false, [], false⟩,
 ⟨some 42, .fieldAddr 36 (.tmp 1) 1, none, false, [], false⟩,
 ⟨some 43, .load 33 (.tmp 42), none, false, [], false⟩,
 ⟨some 44, .move (.tmp 4), none, false, [], false⟩,
 ⟨some 45, .indexAddr 33 (.tmp 43) (.tmp 44), none, false, [], false⟩,
 ⟨some 46, .fieldAddr 25 (.tmp 45) 4, none, false, [], false⟩,
 ⟨some 47, .load 23 (.tmp 46), none, false, [], false⟩,
 ⟨some 48, .move (.tmp 5), none, false, [], false⟩,
 ⟨some 49, .indexAddr 23 (.tmp 47) (.tmp 48), none, false, [], false⟩,
 ⟨some 50, .fieldAddr 49 (.tmp 49) 0, none, false, [], false⟩,
 ⟨some 51, .load 47 (.tmp 50), none, false, [], false⟩,
 ⟨some 52, .call ⟨.builtin .len, #[.tmp 51], #[47]⟩, none, false, [], false⟩,
 ⟨some 53, .binOp .add 3 (.tmp 41) (.tmp 52) 3, none, false, [], false⟩,
 ⟨some 3, .assign (.tmp 53), none, false, [], false⟩]))
 (.reg false [
 ⟨some 39, .move (.tmp 5), none, false, [], false⟩,
 ⟨some 40, .binOp .add 3 (.tmp 39) (.const (.int .i64 1)) 3, none, false, [], false⟩,
 ⟨some 5, .assign (.tmp 40), none, false, [], false⟩]))))))))
 (.reg false [
 ⟨some 11, .move (.tmp 4), none, false, [], false⟩,
 ⟨some 12, .binOp .add 3 (.tmp 11) (.const (.int .i64 1)) 3, none, false, [], false⟩,
 ⟨some 4, .assign (.tmp 12), none, false, [], false⟩]))))))
 (.seq
 (.reg false [
 ⟨some 54, .move (.tmp 3), none, false, [], false⟩,
 ⟨some 55, .binOp .gtr 3 (.tmp 54) (.const (.int .i64 1000)) 3, none, false, [], false⟩,
 ⟨some 56, .move (.tmp 55), none, false, [], false⟩,
 ⟨some 57, .fieldAddr 36 (.tmp 1) 1, some (some 56, false), false, [], false⟩,
 ⟨some 58, .load 33 (.tmp 57), some (some 56, false), false, [], false⟩,
 ⟨some 59, .call ⟨.builtin .len, #[.tmp 58], #[33]⟩, some (some 56, false), false, [], false⟩,
 ⟨some 60, .binOp .gtr 3 (.tmp 59) (.const (.int .i64 12)) 3, some (some 56, false), false, [], false⟩,
 ⟨some 61, .pick (.tmp 56) (.const (.bool true)) (.tmp 60), none, false, [], false⟩,
 ⟨some 62, .move (.tmp 61), none, false, [], false⟩,
 ⟨some 63, .load 36 (.tmp 1), some (some 62, false), false, [], false⟩,
 ⟨some 64, .call ⟨.value (.func 108), #[.tmp 63], #[36]⟩, some (some 62, false), false, [], false⟩,
 ⟨some 65, .pick (.tmp 62) (.const (.bool true)) (.tmp 64), none, false, [], false⟩,
 ⟨some 66, .move (.tmp 65), none, false, [], false⟩,
 ⟨some 67, .load 36 (.tmp 1), some (some 66, false), false, [], false⟩,
 ⟨some 68, .call ⟨.value (.func 36), #[.tmp 67], #[36]⟩, some (some 66, false), false, [], false⟩,
 ⟨some 69, .binOp .neq 62 (.tmp 68) (.const (.int .i64 0)) 62, some (some 66, false), false, [], false⟩,
 ⟨some 70, .pick (.tmp 66) (.const (.bool true)) (.tmp 69), none, false, [], false⟩,
 ⟨some 2, .assign (.tmp 70), none, false, [], false⟩])
 .ret))))
noncomputable def fi55 : FI := ⟨c55, 71, [.tmp 2], .plain⟩
noncomputable def c56 : XC :=
 (.seq
 (.reg false [
 ⟨some 1, .box 25 (.tmp 0), none, false, [], false⟩,
 ⟨some 2, .alloc 25, none, false, [], false⟩])
 (.seq
 (.reg false [
 ⟨some 3, .fieldAddr 25 (.tmp 1) 3, none, false, [], false⟩,
 ⟨some 4, .load 22 (.tmp 3), none, false, [], false⟩,
 ⟨some 5, .call ⟨.value (.func 109), #[.tmp 4], #[22]⟩, none, false, [], false⟩,
 ⟨some 6, .fieldAddr 25 (.tmp 1) 3, none, false, [], false⟩,
 ⟨none, .store 22 (.tmp 6) (.tmp 5), none, false, [], false⟩])
 (.seq
 (.reg false [
 ⟨some 7, .fieldAddr 25 (.tmp 1) 4, none, false, [], false⟩,
 ⟨some 8, .load 23 (.tmp 7), none, false, [], false⟩,
 ⟨some 9, .call ⟨.value (.func 93), #[.tmp 8], #[23]⟩, none, false, [], false⟩,
 ⟨some 10, .fieldAddr 25 (.tmp 1) 4, none, false, [], false⟩,
 ⟨none, .store 23 (.tmp 10) (.tmp 9), none, false, [], false⟩])
 (.seq
 (.reg false [
 ⟨some 11, .load 25 (.tmp 1), none, false, [], false⟩,
 ⟨none, .store 25 (.tmp 2) (.tmp 11), none, false, [], false⟩])
 .ret))))
noncomputable def fi56 : FI := ⟨c56, 12, [.cell 2 25], .plain⟩
noncomputable def c60 : XC :=
 (.seq
 (.reg false [
 ⟨some 4, .assign (.const (.int .i64 0)), none, false, [], false⟩])
 (.seq
 (.seq
 (.reg false [
 ⟨some 5, .move (.tmp 1), none, false, [], false⟩,
 ⟨some 6, .binOp .lss 3 (.tmp 5) (.const (.int .i64 1)) 3, none, false, [], false⟩])
 (.cond (.tmp 6)
 (.seq
 (.reg false [
 ⟨some 4, .assign (.const (.int .i64 0)), none, false, [], false⟩])
 .ret)
 .skip))
 (.seq
 (.reg false [
 ⟨some 7, .move (.tmp 0), none, false, [], false⟩,
 ⟨some 8, .move (.tmp 1), none, false, [], false⟩,
 ⟨some 9, .binOp .rem 3 (.tmp 7) (.tmp 8) 3, none, false, [], false⟩,
 ⟨some 0, .assign (.tmp 9), none, false, [], false⟩])
 (.seq
 (.seq
 (.reg false [
 ⟨some 10, .move (.tmp 0), none, false, [], false⟩,
 ⟨some 11, .binOp .lss 3 (.tmp 10) (.const (.int .i64 0)) 3, none, false, [], false⟩])
 (.cond (.tmp 11)
 (.reg false [
 ⟨some 12, .move (.tmp 0), none, false, [], false⟩,
 ⟨some 13, .move (.tmp 1), none, false, [], false⟩,
 ⟨some 14, .binOp .add 3 (.tmp 12) (.tmp 13) 3, none, false, [], false⟩,
 ⟨some 0, .assign (.tmp 14), none, false, [], false⟩])
 .skip))
 (.seq
 (.reg false [
 ⟨some 15, .move (.tmp 0), none, false, [], false⟩,
 ⟨some 4, .assign (.tmp 15), none, false, [], false⟩])
 .ret)))))
noncomputable def fi60 : FI := ⟨c60, 16, [.tmp 4], .plain⟩
noncomputable def c61 : XC :=
 (.seq
 (.reg false [
 ⟨some 4, .assign (.const (.bool false)), none, false, [], false⟩])
 (.seq
 (.seq
 (.reg false [
 ⟨some 6, .move (.tmp 0), none, false, [], false⟩,
 ⟨some 7, .call ⟨.builtin .len, #[.tmp 6], #[22]⟩, none, false, [], false⟩,
 ⟨some 8, .move (.tmp 1), none, false, [], false⟩,
 ⟨some 9, .call ⟨.builtin .len, #[.tmp 8], #[22]⟩, none, false, [], false⟩,
 ⟨some 10, .binOp .neq 3 (.tmp 7) (.tmp 9) 3, none, false, [], false⟩])
 (.cond (.tmp 10)
 (.seq
 (.reg false [
 ⟨some 4, .assign (.const (.bool false)), none, false, [], false⟩])
 .ret)
 .skip))
 (.seq
 (.seq
 (.reg false [
 ⟨some 5, .assign (.const (.int .i64 0)), none, false, [], false⟩])
 (.block 0
 (.loop
 (.seq
 (.seq
 (.reg false [
 ⟨some 11, .move (.tmp 5), none, false, [], false⟩,
 ⟨some 12, .move (.tmp 0), none, false, [], false⟩,
 ⟨some 13, .call ⟨.builtin .len, #[.tmp 12], #[22]⟩, none, false, [], false⟩,
 ⟨some 14, .binOp .lss 3 (.tmp 11) (.tmp 13) 3, none, false, [], false⟩])
 (.cond (.tmp 14)
 .skip
 (.exit 0)))
 (.seq
 (.block 1
 (.seq
 (.reg true [
 ⟨some 17, .move (.tmp 0), none, false, [], false⟩,
 ⟨some 18, .move (.tmp 5), none, false, [], false⟩,
 ⟨some 19, .indexAddr 22 (.tmp 17) (.tmp 18), none, false, [], false⟩,
 ⟨some 20, .load 3 (.tmp 19), none, false, [], false⟩,
 ⟨some 21, .move (.tmp 1), none, false, [], false⟩,
 ⟨some 22, .move (.tmp 5), none, false, [], false⟩,
 ⟨some 23, .indexAddr 22 (.tmp 21) (.tmp 22), none, false, [], false⟩,
 ⟨some 24, .load 3 (.tmp 23), none, false, [], false⟩,
 ⟨some 25, .binOp .eql 3 (.tmp 20) (.tmp 24) 3, none, false, [], false⟩,
 ⟨some 26, .unOp .not 4 (.tmp 25), none, false, [], false⟩])
 (.cond (.tmp 26)
 (.seq
 (.reg false [
 ⟨some 4, .assign (.const (.bool false)), none, false, [], false⟩])
 .ret)
 .skip)))
 (.reg false [
 ⟨some 15, .move (.tmp 5), none, false, [], false⟩,
 ⟨some 16, .binOp .add 3 (.tmp 15) (.const (.int .i64 1)) 3, none, false, [], false⟩,
 ⟨some 5, .assign (.tmp 16), none, false, [], false⟩]))))))
 (.seq
 (.reg false [
 ⟨some 4, .assign (.const (.bool true)), none, false, [], false⟩])
 .ret))))
noncomputable def fi61 : FI := ⟨c61, 27, [.tmp 4], .plain⟩
noncomputable def c63 : XC :=
 (.seq
 (.reg false [
 ⟨some 4, .assign (.const (.bool false)), none, false, [], false⟩])
 (.seq
 (.seq
 (.reg false [
 ⟨some 6, .move (.tmp 0), none, false, [], false⟩,
 ⟨some 7, .call ⟨.builtin .len, #[.tmp 6], #[47]⟩, none, false, [], false⟩,
 ⟨some 8, .move (.tmp 1), none, false, [], false⟩,
 ⟨some 9, .call ⟨.builtin .len, #[.tmp 8], #[47]⟩, none, false, [], false⟩,
 ⟨some 10, .binOp .neq 3 (.tmp 7) (.tmp 9) 3, none, false, [], false⟩])
 (.cond (.tmp 10)
 (.seq
 (.reg false [
 ⟨some 4, .assign (.const (.bool false)), none, false, [], false⟩])
 .ret)
 .skip))
 (.seq
 (.seq
 (.reg false [
 ⟨some 5, .assign (.const (.int .i64 0)), none, false, [], false⟩])
 (.block 0
 (.loop
 (.seq
 (.seq
 (.reg false [
 ⟨some 11, .move (.tmp 5), none, false, [], false⟩,
 ⟨some 12, .move (.tmp 0), none, false, [], false⟩,
 ⟨some 13, .call ⟨.builtin .len, #[.tmp 12], #[47]⟩, none, false, [], false⟩,
 ⟨some 14, .binOp .lss 3 (.tmp 11) (.tmp 13) 3, none, false, [], false⟩])
 (.cond (.tmp 14)
 .skip
 (.exit 0)))
 (.seq
 (.block 1
 (.seq
 (.reg true [
 ⟨some 17, .move (.tmp 0), none, false, [], false⟩,
 ⟨some 18, .move (.tmp 5), none, false, [], false⟩,
 ⟨some 19, .indexAddr 47 (.tmp 17) (.tmp 18), none, false, [], false⟩,
 ⟨some 20, .load 46 (.tmp 19), none, false, [], false⟩,
 ⟨some 21, .move (.tmp 1), none, false, [], false⟩,
 ⟨some 22, .move (.tmp 5), none, false, [], false⟩,
 ⟨some 23, .indexAddr 47 (.tmp 21) (.tmp 22), none, false, [], false⟩,
 ⟨some 24, .load 46 (.tmp 23), none, false, [], false⟩,
 ⟨some 25, .call ⟨.value (.func 114), #[.tmp 20, .tmp 24], #[46, 46]⟩, none, false, [true], false⟩,
 ⟨some 26, .unOp .not 4 (.tmp 25), none, false, [], false⟩])
 (.cond (.tmp 26)
 (.seq
 (.reg false [
 ⟨some 4, .assign (.const (.bool false)), none, false, [], false⟩])
 .ret)
 .skip)))
 (.reg false [
 ⟨some 15, .move (.tmp 5), none, false, [], false⟩,
 ⟨some 16, .binOp .add 3 (.tmp 15) (.const (.int .i64 1)) 3, none, false, [], false⟩,
 ⟨some 5, .assign (.tmp 16), none, false, [], false⟩]))))))
 (.seq
 (.reg false [
 ⟨some 4, .assign (.const (.bool true)), none, false, [], false⟩])
 .ret))))
noncomputable def fi63 : FI := ⟨c63, 27, [.tmp 4], .plain⟩
noncomputable def c64 : XC :=
 (.seq
 (.reg false [
 ⟨some 4, .assign (.const (.bool false)), none, false, [], false⟩])
 (.seq
 (.seq
 (.reg false [
 ⟨some 6, .move (.tmp 0), none, false, [], false⟩,
 ⟨some 7, .call ⟨.builtin .len, #[.tmp 6], #[23]⟩, none, false, [], false⟩,
 ⟨some 8, .move (.tmp 1), none, false, [], false⟩,
 ⟨some 9, .call ⟨.builtin .len, #[.tmp 8], #[23]⟩, none, false, [], false⟩,
 ⟨some 10, .binOp .neq 3 (.tmp 7) (.tmp 9) 3, none, false, [], false⟩])
 (.cond (.tmp 10)
 (.seq
 (.reg false [
 ⟨some 4, .assign (.const (.bool false)), none, false, [], false⟩])
 .ret)
 .skip))
 (.seq
 (.seq
 (.reg false [
 ⟨some 5, .assign (.const (.int .i64 0)), none, false, [], false⟩])
 (.block 0
 (.loop
 (.seq
 (.seq
 (.reg false [
 ⟨some 11, .move (.tmp 5), none, false, [], false⟩,
 ⟨some 12, .move (.tmp 0), none, false, [], false⟩,
 ⟨some 13, .call ⟨.builtin .len, #[.tmp 12], #[23]⟩, none, false, [], false⟩,
 ⟨some 14, .binOp .lss 3 (.tmp 11) (.tmp 13) 3, none, false, [], false⟩])
 (.cond (.tmp 14)
 .skip
 (.exit 0)))
 (.seq
 (.block 1
 (.seq
 (.reg true [
 ⟨some 17, .move (.tmp 0), none, false, [], false⟩,
 ⟨some 18, .move (.tmp 5), none, false, [], false⟩,
 ⟨some 19, .indexAddr 23 (.tmp 17) (.tmp 18), none, false, [], false⟩,
 ⟨some 20, .fieldAddr 49 (.tmp 19) 1, none, false, [], false⟩,
 ⟨some 21, .load 29 (.tmp 20), none, false, [], false⟩,
 ⟨some 22, .move (.tmp 1), none, false, [], false⟩,
 ⟨some 23, .move (.tmp 5), none, false, [], false⟩,
 ⟨some 24, .indexAddr 23 (.tmp 22) (.tmp 23), none, false, [], false⟩,
 ⟨some 25, .fieldAddr 49 (.tmp 24) 1, none, false, [], false⟩,
 ⟨some 26, .load 29 (.tmp 25), none, false, [], false⟩,
 ⟨some 27, .binOp .eql 29 (.tmp 21) (.tmp 26) 29, none, false, [], false⟩,
 ⟨some 28, .move (.tmp 27), none, false, [], false⟩,
 ⟨some 29, .move (.tmp 0), some (some 28, true), false, [], false⟩,
 ⟨some 30, .move (.tmp 5), some (some 28, true), false, [], false⟩,
 ⟨some 31, .indexAddr 23 (.tmp 29) (.tmp 30), some (some 28, true), false, [], false⟩,
 ⟨some 32, .fieldAddr 49 (.tmp 31) 0, some (some 28, true), false, [], false⟩,
 ⟨some 33, .load 47 (.tmp 32), some (some 28, true), false, [], false⟩,
 ⟨some 34, .move (.tmp 1), some (some 28, true), false, [], false⟩,
 ⟨some 35, .move (.tmp 5), some (some 28, true), false, [], false⟩,
 ⟨some 36, .indexAddr 23 (.tmp 34) (.tmp 35), some (some 28, true), false, [], false⟩,
 ⟨some 37, .fieldAddr 49 (.tmp 36) 0, some (some 28, true), false, [], false⟩,
 ⟨some 38, .load 47 (.tmp 37), some (some 28, true), false, [], false⟩,
 ⟨some 39, .call ⟨.value (.func 63), #[.tmp 33, .tmp 38], #[47, 47]⟩, some (some 28, true), false, [true, true], false⟩,
 ⟨some 40, .pick (.tmp 28) (.tmp 39) (.const (.bool false)), none, false, [], false⟩,
 ⟨some 41, .unOp .not 4 (.tmp 40), none, false, [], false⟩])
 (.cond (.tmp 41)
 (.seq
 (.reg false [
 ⟨some 4, .assign (.const (.bool false)), none, false, [], false⟩])
 .ret)
 .skip)))
 (.reg false [
 ⟨some 15, .move (.tmp 5), none, false, [], false⟩,
 ⟨some 16, .binOp .add 3 (.tmp 15) (.const (.int .i64 1)) 3, none, false, [], false⟩,
 ⟨some 5, .assign (.tmp 16), none, false, [], false⟩]))))))
 (.seq
 (.reg false [
 ⟨some 4, .assign (.const (.bool true)), none, false, [], false⟩])
 .ret))))
noncomputable def fi64 : FI := ⟨c64, 42, [.tmp 4], .plain⟩
noncomputable def c67 : XC :=
 (.seq
 (.reg false [
 ⟨some 1, .box 36 (.tmp 0), none, false, [], false⟩,
 ⟨some 2, .alloc 36, none, false, [], false⟩])
 (.seq
 (.reg true [
 ⟨some 3, .fieldAddr 36 (.tmp 1) 0, none, false, [], false⟩,
 ⟨some 4, .load 34 (.tmp 3), none, false, [], false⟩,
 ⟨some 5, .call ⟨.value (.func 118), #[.tmp 4], #[34]⟩, none, true, [false, false, true, true, true], false⟩,
 ⟨some 6, .fieldAddr 36 (.tmp 1) 1, none, false, [], false⟩,
 ⟨some 7, .load 33 (.tmp 6), none, false, [], true⟩,
 ⟨some 8, .call ⟨.value (.func 119), #[.tmp 7], #[33]⟩, none, false, [true, true], false⟩,
 ⟨some 9, .build 36 #[(0, .tmp 5), (1, .tmp 8)], none, false, [], false⟩,
 ⟨none, .store 36 (.tmp 2) (.tmp 9), none, false, [], false⟩])
 .ret))
noncomputable def fi67 : FI := ⟨c67, 10, [.cell 2 36], .plain⟩
noncomputable def c72 : XC :=
 (.seq
 (.reg false [
 ⟨some 1, .box 23 (.tmp 0), none, false, [], false⟩,
 ⟨some 2, .assign (.const .nilFunc), none, false, [], false⟩])
 (.seq
 (.reg false [
 ⟨some 3, .makeFunc (.func 128) #[] #[.tmp 1], none, false, [], false⟩,
 ⟨some 2, .assign (.tmp 3), none, false, [], false⟩])
 .ret))
noncomputable def fi72 : FI := ⟨c72, 4, [.tmp 2], .plain⟩
noncomputable def c73 : XC :=
 (.seq
 (.reg false [
 ⟨some 1, .box 29 (.tmp 0), none, false, [], false⟩,
 ⟨some 2, .assign (.const (.slice none 0 0)), none, false, [], false⟩])
 (.seq
 (.seq
 (.reg false [
 ⟨some 3, .fieldAddr 29 (.tmp 1) 0, none, false, [], false⟩,
 ⟨some 4, .load 3 (.tmp 3), none, false, [], false⟩])
 (.block 0
 (.seq
 (.reg false [
 ⟨some 6, .binOp .eql 3 (.tmp 4) (.const (.int .i64 1)) 3, none, false, [], false⟩,
 ⟨some 5, .assign (.tmp 6), none, false, [], false⟩])
 (.cond (.tmp 5)
 (.seq
 (.reg false [
 ⟨some 7, .fieldAddr 29 (.tmp 1) 2, none, false, [], false⟩,
 ⟨some 8, .load 3 (.tmp 7), none, false, [], false⟩,
 ⟨some 9, .buildSlice 22 1 #[(0, .tmp 8)], none, false, [], false⟩,
 ⟨some 2, .assign (.tmp 9), none, false, [], false⟩])
 .ret)
 (.seq
 (.reg false [
 ⟨some 11, .binOp .eql 3 (.tmp 4) (.const (.int .i64 2)) 3, none, false, [], false⟩,
 ⟨some 10, .assign (.tmp 11), none, false, [], false⟩])
 (.cond (.tmp 10)
 (.seq
 (.reg false [
 ⟨some 12, .fieldAddr 29 (.tmp 1) 2, none, false, [], false⟩,
 ⟨some 13, .load 3 (.tmp 12), none, false, [], false⟩,
 ⟨some 14, .fieldAddr 29 (.tmp 1) 3, none, false, [], false⟩,
 ⟨some 15, .load 3 (.tmp 14), none, false, [], false⟩,
 ⟨some 16, .buildSlice 22 2 #[(0, .tmp 13), (1, .tmp 15)], none, false, [], false⟩,
 ⟨some 2, .assign (.tmp 16), none, false, [], false⟩])
 .ret)
 .skip))))))
 (.seq
 (.reg false [
 ⟨some 2, .assign (.const (.slice none 0 0)), none, false, [], false⟩])
 .ret)))
noncomputable def fi73 : FI := ⟨c73, 17, [.tmp 2], .plain⟩
noncomputable def c74 : XC :=
 (.seq
 (.reg false [
 ⟨some 4, .assign (.const (.bool false)), none, false, [], false⟩])
 (.seq
 (.seq
 (.reg false [
 ⟨some 7, .move (.tmp 1), none, false, [], false⟩,
 ⟨some 8, .call ⟨.builtin .len, #[.tmp 7], #[56]⟩, none, false, [], false⟩,
 ⟨some 9, .move (.const (.int .i64 0)), none, false, [], false⟩])
 (.block 0
 (.loop
 (.seq
 (.reg false [
 ⟨some 10, .binOp .lss 3 (.tmp 9) (.tmp 8) 3, none, false, [], false⟩])
 (.seq
 (.cond (.tmp 10)
 .skip
 (.exit 0))
 (.seq
 (.block 1
 (.seq
 (.reg false [
 ⟨some 11, .move (.tmp 9), none, false, [], false⟩,
 ⟨some 12, .indexAddr 56 (.tmp 7) (.tmp 9), none, false, [], false⟩,
 ⟨some 13, .load 4 (.tmp 12), none, false, [], false⟩,
 ⟨some 5, .assign (.tmp 11), none, false, [], false⟩,
 ⟨some 6, .assign (.tmp 13), none, false, [], false⟩])
 (.seq
 (.reg false [
 ⟨some 14, .move (.tmp 6), none, false, [], false⟩,
 ⟨some 15, .move (.tmp 14), none, false, [], false⟩,
 ⟨some 16, .move (.tmp 0), some (some 15, true), false, [], false⟩,
 ⟨some 17, .move (.tmp 5), some (some 15, true), false, [], false⟩,
 ⟨some 18, .indexAddr 56 (.tmp 16) (.tmp 17), some (some 15, true), false, [], false⟩,
 ⟨some 19, .load 4 (.tmp 18), some (some 15, true), false, [], false⟩,
 ⟨some 20, .unOp .not 4 (.tmp 19), some (some 15, true), false, [], false⟩,
 ⟨some 21, .pick (.tmp 15) (.tmp 20) (.const (.bool false)), none, false, [], false⟩])
 (.cond (.tmp 21)
 (.reg false [
 ⟨some 22, .move (.tmp 0), none, false, [], false⟩,
 ⟨some 23, .move (.tmp 5), none, false, [], false⟩,
 ⟨some 24, .indexAddr 56 (.tmp 22) (.tmp 23), none, false, [], false⟩,
 ⟨none, .store 4 (.tmp 24) (.const (.bool true)), none, false, [], false⟩,
 ⟨some 4, .assign (.const (.bool true)), none, false, [], false⟩])
 .skip))))
 (.reg false [
 ⟨some 25, .binOp .add 3 (.tmp 9) (.const (.int .i64 1)) 3, none, false, [], false⟩,
 ⟨some 9, .move (.tmp 25), none, false, [], false⟩])))))))
 (.seq
 (.reg false [
 ⟨some 26, .move (.tmp 4), none, false, [], false⟩,
 ⟨some 4, .assign (.tmp 26), none, false, [], false⟩])
 .ret)))
noncomputable def fi74 : FI := ⟨c74, 27, [.tmp 4], .plain⟩
noncomputable def c75 : XC :=
 (.seq
 (.reg false [
 ⟨some 3, .box 49 (.tmp 0), none, false, [], false⟩,
 ⟨some 5, .box 97 (.tmp 2), none, false, [], false⟩,
 ⟨some 6, .assign (.const (.slice none 0 0)), none, false, [], false⟩])
 (.seq
 (.reg false [
 ⟨some 13, .move (.tmp 1), none, false, [], false⟩,
 ⟨some 14, .call ⟨.value (.func 129), #[.tmp 13], #[56]⟩, none, false, [], false⟩,
 ⟨some 7, .alloc 56, none, false, [], false⟩,
 ⟨none, .store 56 (.tmp 7) (.tmp 14), none, false, [], false⟩])
 (.seq
 (.seq
 (.reg false [
 ⟨some 15, .fieldAddr 49 (.tmp 3) 1, none, false, [], false⟩,
 ⟨some 16, .fieldAddr 29 (.tmp 15) 0, none, false, [], false⟩,
 ⟨some 17, .load 3 (.tmp 16), none, false, [], false⟩,
 ⟨some 18, .binOp .neq 3 (.tmp 17) (.const (.int .i64 1)) 3, none, false, [], false⟩,
 ⟨some 19, .move (.tmp 18), none, false, [], false⟩,
 ⟨some 20, .fieldAddr 49 (.tmp 3) 1, some (some 19, true), false, [], false⟩,
 ⟨some 21, .fieldAddr 29 (.tmp 20) 1, some (some 19, true), false, [], false⟩,
 ⟨some 22, .load 3 (.tmp 21), some (some 19, true), false, [], false⟩,
 ⟨some 23, .binOp .geq 3 (.tmp 22) (.const (.int .i64 0)) 3, some (some 19, true), false, [], false⟩,
 ⟨some 24, .pick (.tmp 19) (.tmp 23) (.const (.bool false)), none, false, [], false⟩])
 (.cond (.tmp 24)
 (.reg false [
 ⟨some 25, .load 56 (.tmp 7), none, false, [], false⟩,
 ⟨some 26, .fieldAddr 49 (.tmp 3) 1, none, false, [], false⟩,
 ⟨some 27, .fieldAddr 29 (.tmp 26) 1, none, false, [], false⟩,
 ⟨some 28, .load 3 (.tmp 27), none, false, [], false⟩,
 ⟨some 29, .indexAddr 56 (.tmp 25) (.tmp 28), none, false, [], false⟩,
 ⟨none, .store 4 (.tmp 29) (.const (.bool true)), none, false, [], false⟩])
 .skip))
 (.seq
 (.seq
 (.reg false [
 ⟨some 30, .fieldAddr 49 (.tmp 3) 0, none, false, [], false⟩,
 ⟨some 31, .load 47 (.tmp 30), none, false, [], false⟩,
 ⟨some 32, .call ⟨.value (.func 130), #[.tmp 31], #[47]⟩, none, false, [], false⟩])
 (.block 0
 (.rfn (.tmp 32) [33, 34]
 (.reg false [
 ⟨some 9, .alloc 46, none, false, [], false⟩,
 ⟨none, .store 46 (.tmp 9) (.tmp 34), none, false, [], false⟩])
 (.block 1
 (.seq
 (.reg false [
 ⟨some 35, .load 97 (.tmp 5), none, false, [], false⟩,
 ⟨some 36, .load 46 (.tmp 9), none, false, [], false⟩,
 ⟨some 37, .load 56 (.tmp 7), none, false, [], false⟩,
 ⟨some 38, .call ⟨.value (.tmp 35), #[.tmp 36, .tmp 37], #[46, 56]⟩, none, false, [], false⟩])
 (.seq
 (.seq
 (.reg false [
 ⟨some 39, .load 46 (.tmp 9), none, false, [], false⟩,
 ⟨some 40, .call ⟨.value (.func 80), #[.tmp 39], #[46]⟩, none, false, [], false⟩,
 ⟨some 10, .assign (.tmp 40), none, false, [], false⟩])
 (.seq
 (.reg false [
 ⟨some 41, .move (.tmp 10), none, false, [], false⟩,
 ⟨some 42, .binOp .geq 3 (.tmp 41) (.const (.int .i64 0)) 3, none, false, [], false⟩])
 (.cond (.tmp 42)
 (.reg false [
 ⟨some 43, .load 56 (.tmp 7), none, false, [], false⟩,
 ⟨some 44, .move (.tmp 10), none, false, [], false⟩,
 ⟨some 45, .indexAddr 56 (.tmp 43) (.tmp 44), none, false, [], false⟩,
 ⟨none, .store 4 (.tmp 45) (.const (.bool false)), none, false, [], false⟩])
 .skip)))
 (.seq
 (.reg false [
 ⟨some 46, .load 46 (.tmp 9), none, false, [], false⟩,
 ⟨some 47, .call ⟨.value (.func 131), #[.tmp 46], #[46]⟩, none, false, [], false⟩,
 ⟨some 48, .call ⟨.builtin .len, #[.tmp 47], #[22]⟩, none, false, [], false⟩,
 ⟨some 49, .move (.const (.int .i64 0)), none, false, [], false⟩])
 (.block 2
 (.loop
 (.seq
 (.reg false [
 ⟨some 50, .binOp .lss 3 (.tmp 49) (.tmp 48) 3, none, false, [], false⟩])
 (.seq
 (.cond (.tmp 50)
 .skip
 (.exit 2))
 (.seq
 (.block 3
 (.seq
 (.reg false [
 ⟨some 51, .indexAddr 22 (.tmp 47) (.tmp 49), none, false, [], false⟩,
 ⟨some 52, .load 3 (.tmp 51), none, false, [], false⟩,
 ⟨some 12, .assign (.tmp 52), none, false, [], false⟩])
 (.reg false [
 ⟨some 53, .load 56 (.tmp 7), none, false, [], false⟩,
 ⟨some 54, .move (.tmp 12), none, false, [], false⟩,
 ⟨some 55, .indexAddr 56 (.tmp 53) (.tmp 54), none, false, [], false⟩,
 ⟨none, .store 4 (.tmp 55) (.const (.bool true)), none, false, [], false⟩])))
 (.reg false [
 ⟨some 56, .binOp .add 3 (.tmp 49) (.const (.int .i64 1)) 3, none, false, [], false⟩,
 ⟨some 49, .move (.tmp 56), none, false, [], false⟩])))))))))))))
 (.seq
 (.reg false [
 ⟨some 57, .load 56 (.tmp 7), none, false, [], false⟩,
 ⟨some 6, .assign (.tmp 57), none, false, [], false⟩])
 .ret)))))
noncomputable def fi75 : FI := ⟨c75, 58, [.tmp 6], .plain⟩
noncomputable def c76 : XC :=
 (.reg false [
 ⟨some 2, .box 46 (.tmp 0), none, false, [], false⟩])
noncomputable def fi76 : FI := ⟨c76, 4, [], .plain⟩
noncomputable def c77 : XC :=
 (.seq
 (.reg false [
 ⟨some 5, .move (.tmp 0), none, false, [], false⟩,
 ⟨some 6, .move (.tmp 1), none, false, [], false⟩,
 ⟨some 7, .binOp .neq 3 (.tmp 5) (.tmp 6) 3, none, false, [], false⟩])
 (.cond (.tmp 7)
 (.reg true [
 ⟨some 8, .load 51 (.tmp 2), none, false, [], false⟩,
 ⟨some 9, .move (.tmp 0), none, false, [], false⟩,
 ⟨some 10, .indexAddr 51 (.tmp 8) (.tmp 9), none, false, [], false⟩,
 ⟨some 11, .load 56 (.tmp 10), none, false, [], false⟩,
 ⟨some 12, .move (.tmp 1), none, false, [], false⟩,
 ⟨some 13, .load 51 (.tmp 2), none, false, [], false⟩,
 ⟨some 14, .move (.tmp 1), none, false, [], false⟩,
 ⟨some 15, .indexAddr 51 (.tmp 13) (.tmp 14), none, false, [], false⟩,
 ⟨some 16, .load 56 (.tmp 15), none, false, [], false⟩,
 ⟨some 18, .indexAddr 56 (.tmp 11) (.tmp 12), none, false, [], false⟩,
 ⟨none, .store 4 (.tmp 18) (.const (.bool true)), none, false, [false, true, true], false⟩,
 ⟨some 17, .move (.tmp 0), none, false, [], false⟩,
 ⟨some 19, .indexAddr 56 (.tmp 16) (.tmp 17), none, false, [], false⟩,
 ⟨none, .store 4 (.tmp 19) (.const (.bool true)), none, false, [], false⟩])
 .skip))
noncomputable def fi77 : FI := ⟨c77, 20, [], .plain⟩
noncomputable def c78 : XC :=
 (.seq
 (.reg false [
 ⟨some 4, .assign (.const (.bool false)), none, false, [], false⟩])
 (.seq
 (.reg false [
 ⟨some 5, .move (.tmp 0), none, false, [], false⟩,
 ⟨some 6, .fieldAddr 25 (.tmp 1) 2, none, false, [], false⟩,
 ⟨some 7, .load 3 (.tmp 6), none, false, [], false⟩,
 ⟨some 8, .binOp .lss 3 (.tmp 5) (.tmp 7) 3, none, false, [], false⟩,
 ⟨some 9, .move (.tmp 8), none, false, [], false⟩,
 ⟨some 10, .load 51 (.tmp 2), some (some 9, false), false, [], false⟩,
 ⟨some 11, .indexAddr 51 (.tmp 10) (.const (.int .i64 0)), some (some 9, false), false, [], false⟩,
 ⟨some 12, .load 56 (.tmp 11), some (some 9, false), false, [], false⟩,
 ⟨some 13, .move (.tmp 0), some (some 9, false), false, [], false⟩,
 ⟨some 14, .indexAddr 56 (.tmp 12) (.tmp 13), some (some 9, false), false, [], false⟩,
 ⟨some 15, .load 4 (.tmp 14), some (some 9, false), false, [], false⟩,
 ⟨some 16, .pick (.tmp 9) (.const (.bool true)) (.tmp 15), none, false, [], false⟩,
 ⟨some 4, .assign (.tmp 16), none, false, [], false⟩])
 .ret))
noncomputable def fi78 : FI := ⟨c78, 17, [.tmp 4], .plain⟩
noncomputable def c79 : XC :=
 (.seq
 (.reg false [
 ⟨some 3, .box 46 (.tmp 0), none, false, [], false⟩])
 (.seq
 (.reg false [
 ⟨some 8, .load 46 (.tmp 3), none, false, [], false⟩,
 ⟨some 9, .call ⟨.value (.func 80), #[.tmp 8], #[46]⟩, none, false, [], false⟩,
 ⟨some 5, .assign (.tmp 9), none, false, [], false⟩])
 (.seq
 (.reg false [
 ⟨some 10, .move (.tmp 1), none, false, [], false⟩,
 ⟨some 11, .call ⟨.builtin .len, #[.tmp 10], #[56]⟩, none, false, [], false⟩,
 ⟨some 12, .move (.const (.int .i64 0)), none, false, [], false⟩])
 (.block 0
 (.loop
 (.seq
 (.reg false [
 ⟨some 13, .binOp .lss 3 (.tmp 12) (.tmp 11) 3, none, false, [], false⟩])
 (.seq
 (.cond (.tmp 13)
 .skip
 (.exit 0))
 (.seq
 (.block 1
 (.seq
 (.reg false [
 ⟨some 14, .move (.tmp 12), none, false, [], false⟩,
 ⟨some 15, .indexAddr 56 (.tmp 10) (.tmp 12), none, false, [], false⟩,
 ⟨some 16, .load 4 (.tmp 15), none, false, [], false⟩,
 ⟨some 6, .assign (.tmp 14), none, false, [], false⟩,
 ⟨some 7, .assign (.tmp 16), none, false, [], false⟩])
 (.seq
 (.reg false [
 ⟨some 17, .move (.tmp 7), none, false, [], false⟩,
 ⟨some 18, .move (.tmp 17), none, false, [], false⟩,
 ⟨some 19, .move (.tmp 5), some (some 18, true), false, [], false⟩,
 ⟨some 20, .binOp .geq 3 (.tmp 19) (.const (.int .i64 0)) 3, some (some 18, true), false, [], false⟩,
 ⟨some 21, .pick (.tmp 18) (.tmp 20) (.const (.bool false)), none, false, [], false⟩,
 ⟨some 22, .move (.tmp 21), none, false, [], false⟩,
 ⟨some 23, .fieldAddr 46 (.tmp 3) 0, some (some 22, true), false, [], false⟩,
 ⟨some 24, .load 3 (.tmp 23), some (some 22, true), false, [], false⟩,
 ⟨some 25, .binOp .eql 3 (.tmp 24) (.const (.int .i64 2)) 3, some (some 22, true), false, [], false⟩,
 ⟨some 26, .move (.tmp 25), some (some 22, true), false, [], false⟩,
 ⟨some 27, .fieldAddr 46 (.tmp 3) 3, some (some 26, true), false, [], false⟩,
 ⟨some 28, .load 3 (.tmp 27), some (some 26, true), false, [], false⟩,
 ⟨some 29, .move (.tmp 6), some (some 26, true), false, [], false⟩,
 ⟨some 30, .binOp .eql 3 (.tmp 28) (.tmp 29) 3, some (some 26, true), false, [], false⟩,
 ⟨some 31, .pick (.tmp 26) (.tmp 30) (.const (.bool false)), some (some 22, true), false, [], false⟩,
 ⟨some 32, .unOp .not 4 (.tmp 31), some (some 22, true), false, [], false⟩,
 ⟨some 33, .pick (.tmp 22) (.tmp 32) (.const (.bool false)), none, false, [], false⟩])
 (.cond (.tmp 33)
 (.reg false [
 ⟨some 34, .load 98 (.tmp 2), none, false, [], false⟩,
 ⟨some 35, .move (.tmp 5), none, false, [], false⟩,
 ⟨some 36, .move (.tmp 6), none, false, [], false⟩,
 ⟨some 37, .call ⟨.value (.tmp 34), #[.tmp 35, .tmp 36], #[3, 3]⟩, none, false, [], false⟩])
 .skip))))
 (.reg false [
 ⟨some 38, .binOp .add 3 (.tmp 12) (.const (.int .i64 1)) 3, none, false, [], false⟩,
 ⟨some 12, .move (.tmp 38), none, false, [], false⟩])))))))))
noncomputable def fi79 : FI := ⟨c79, 39, [], .plain⟩
noncomputable def c80 : XC :=
 (.seq
 (.reg false [
 ⟨some 1, .box 46 (.tmp 0), none, false, [], false⟩,
 ⟨some 2, .assign (.const (.int .i64 0)), none, false, [], false⟩])
 (.seq
 (.seq
 (.reg false [
 ⟨some 3, .fieldAddr 46 (.tmp 1) 0, none, false, [], false⟩,
 ⟨some 4, .load 3 (.tmp 3), none, false, [], false⟩])
 (.block 0
 (.seq
 (.seq
 (.reg false [
 ⟨some 6, .binOp .eql 3 (.tmp 4) (.const (.int .i64 1)) 3, none, false, [], false⟩,
 ⟨some 5, .assign (.tmp 6), none, false, [], false⟩])
 (.cond (.tmp 5)
 .skip
 (.seq
 (.reg false [
 ⟨some 7, .binOp .eql 3 (.tmp 4) (.const (.int .i64 2)) 3, none, false, [], false⟩,
 ⟨some 5, .assign (.tmp 7), none, false, [], false⟩])
 (.cond (.tmp 5)
 .skip
 (.seq
 (.reg false [
 ⟨some 8, .binOp .eql 3 (.tmp 4) (.const (.int .i64 3)) 3, none, false, [], false⟩,
 ⟨some 5, .assign (.tmp 8), none, false, [], false⟩])
 (.cond (.tmp 5)
 .skip
 (.seq
 (.reg false [
 ⟨some 9, .binOp .eql 3 (.tmp 4) (.const (.int .i64 4)) 3, none, false, [], false⟩,
 ⟨some 5, .assign (.tmp 9), none, false, [], false⟩])
 (.cond (.tmp 5)
 .skip
 (.seq
 (.reg false [
 ⟨some 10, .binOp .eql 3 (.tmp 4) (.const (.int .i64 5)) 3, none, false, [], false⟩,
 ⟨some 5, .assign (.tmp 10), none, false, [], false⟩])
 (.cond (.tmp 5)
 .skip
 (.seq
 (.reg false [
 ⟨some 11, .binOp .eql 3 (.tmp 4) (.const (.int .i64 7)) 3, none, false, [], false⟩,
 ⟨some 5, .assign (.tmp 11), none, false, [], false⟩])
 (.cond (.tmp 5)
 .skip
 (.reg false [
 ⟨some 12, .binOp .eql 3 (.tmp 4) (.const (.int .i64 10)) 3, none, false, [], false⟩,
 ⟨some 5, .assign (.tmp 12), none, false, [], false⟩])))))))))))))
 (.cond (.tmp 5)
 (.seq
 (.reg false [
 ⟨some 13, .fieldAddr 46 (.tmp 1) 2, none, false, [], false⟩,
 ⟨some 14, .load 3 (.tmp 13), none, false, [], false⟩,
 ⟨some 2, .assign (.tmp 14), none, false, [], false⟩])
 .ret)
 (.seq
 (.reg false [
 ⟨some 16, .binOp .eql 3 (.tmp 4) (.const (.int .i64 9)) 3, none, false, [], false⟩,
 ⟨some 15, .assign (.tmp 16), none, false, [], false⟩])
 (.cond (.tmp 15)
 (.seq
 (.reg false [
 ⟨some 17, .fieldAddr 46 (.tmp 1) 2, none, false, [], false⟩,
 ⟨some 18, .load 3 (.tmp 17), none, false, [], false⟩,
 ⟨some 19, .call ⟨.builtin .max, #[.tmp 18, .const (.int .i64 (-1))], #[3, 3]⟩, none, false, [], false⟩,
 ⟨some 2, .assign (.tmp 19), none, false, [], false⟩])
 .ret)
 .skip))))))
 (.seq
 (.reg false [
 ⟨some 2, .assign (.const (.int .i64 (-1))), none, false, [], false⟩])
 .ret)))
noncomputable def fi80 : FI := ⟨c80, 20, [.tmp 2], .plain⟩
noncomputable def c81 : XC :=
 (.seq
 (.reg false [
 ⟨some 1, .box 25 (.tmp 0), none, false, [], false⟩,
 ⟨some 2, .assign (.const (.slice none 0 0)), none, false, [], false⟩,
 ⟨some 3, .assign (.const (.slice none 0 0)), none, false, [], false⟩])
 (.seq
 (.reg false [
 ⟨some 4, .assign (.const (.slice none 0 0)), none, false, [], false⟩])
 (.seq
 (.reg false [
 ⟨some 5, .assign (.const (.slice none 0 0)), none, false, [], false⟩])
 (.seq
 (.seq
 (.reg false [
 ⟨some 6, .assign (.const (.int .i64 0)), none, false, [], false⟩])
 (.block 0
 (.loop
 (.seq
 (.seq
 (.reg false [
 ⟨some 10, .move (.tmp 6), none, false, [], false⟩,
 ⟨some 11, .fieldAddr 25 (.tmp 1) 4, none, false, [], false⟩,
 ⟨some 12, .load 23 (.tmp 11), none, false, [], false⟩,
 ⟨some 13, .call ⟨.builtin .len, #[.tmp 12], #[23]⟩, none, false, [], false⟩,
 ⟨some 14, .binOp .lss 3 (.tmp 10) (.tmp 13) 3, none, false, [], false⟩])
 (.cond (.tmp 14)
 .skip
 (.exit 0)))
 (.seq
 (.block 1
 (.seq
 (.reg false [
 ⟨some 17, .fieldAddr 25 (.tmp 1) 3, none, false, [], false⟩,
 ⟨some 18, .load 22 (.tmp 17), none, false, [], false⟩,
 ⟨some 19, .call ⟨.builtin .len, #[.tmp 18], #[22]⟩, none, false, [], false⟩,
 ⟨some 20, .makeSlice 56 (.tmp 19) (.tmp 19), none, false, [], false⟩,
 ⟨some 7, .assign (.tmp 20), none, false, [], false⟩])
 (.seq
 (.reg false [
 ⟨some 21, .fieldAddr 25 (.tmp 1) 3, none, false, [], false⟩,
 ⟨some 22, .load 22 (.tmp 21), none, false, [], false⟩,
 ⟨some 23, .call ⟨.builtin .len, #[.tmp 22], #[22]⟩, none, false, [], false⟩,
 ⟨some 24, .makeSlice 56 (.tmp 23) (.tmp 23), none, false, [], false⟩,
 ⟨some 8, .assign (.tmp 24), none, false, [], false⟩])
 (.seq
 (.seq
 (.reg false [
 ⟨some 9, .assign (.const (.int .i64 0)), none, false, [], false⟩])
 (.block 2
 (.loop
 (.seq
 (.seq
 (.reg false [
 ⟨some 25, .move (.tmp 9), none, false, [], false⟩,
 ⟨some 26, .fieldAddr 25 (.tmp 1) 3, none, false, [], false⟩,
 ⟨some 27, .load 22 (.tmp 26), none, false, [], false⟩,
 ⟨some 28, .call ⟨.builtin .len, #[.tmp 27], #[22]⟩, none, false, [], false⟩,
 ⟨some 29, .binOp .lss 3 (.tmp 25) (.tmp 28) 3, none, false, [], false⟩])
 (.cond (.tmp 29)
 .skip
 (.exit 2)))
 (.seq
 (.block 3
 (.seq
 (.reg false [
 ⟨some 32, .move (.tmp 7), none, false, [], false⟩,
 ⟨some 33, .move (.tmp 9), none, false, [], false⟩,
 ⟨some 34, .load 25 (.tmp 1), none, false, [], false⟩,
 ⟨some 35, .move (.tmp 6), none, false, [], false⟩,
 ⟨some 36, .move (.tmp 9), none, false, [], false⟩,
 ⟨some 37, .call ⟨.value (.func 132), #[.tmp 34, .tmp 35, .tmp 36], #[25, 3, 3]⟩, none, false, [], false⟩,
 ⟨some 38, .indexAddr 56 (.tmp 32) (.tmp 33), none, false, [], false⟩,
 ⟨none, .store 4 (.tmp 38) (.tmp 37), none, false, [], false⟩])
 (.reg false [
 ⟨some 39, .move (.tmp 8), none, false, [], false⟩,
 ⟨some 40, .move (.tmp 9), none, false, [], false⟩,
 ⟨some 41, .load 25 (.tmp 1), none, false, [], false⟩,
 ⟨some 42, .move (.tmp 6), none, false, [], false⟩,
 ⟨some 43, .move (.tmp 9), none, false, [], false⟩,
 ⟨some 44, .call ⟨.value (.func 133), #[.tmp 41, .tmp 42, .tmp 43], #[25, 3, 3]⟩, none, false, [], false⟩,
 ⟨some 45, .indexAddr 56 (.tmp 39) (.tmp 40), none, false, [], false⟩,
 ⟨none, .store 4 (.tmp 45) (.tmp 44), none, false, [], false⟩])))
 (.reg false [
 ⟨some 30, .move (.tmp 9), none, false, [], false⟩,
 ⟨some 31, .binOp .add 3 (.tmp 30) (.const (.int .i64 1)) 3, none, false, [], false⟩,
 ⟨some 9, .assign (.tmp 31), none, false, [], false⟩]))))))
 (.seq
 (.reg false [
 ⟨some 46, .move (.tmp 4), none, false, [], false⟩,
 ⟨some 47, .move (.tmp 7), none, false, [], false⟩,
 ⟨some 48, .buildSlice 51 1 #[(0, .tmp 47)], none, false, [], false⟩,
 ⟨some 49, .call ⟨.builtin .append, #[.tmp 46, .tmp 48], #[51, 51]⟩, none, false, [], false⟩,
 ⟨some 4, .assign (.tmp 49), none, false, [], false⟩])
 (.reg false [
 ⟨some 50, .move (.tmp 5), none, false, [], false⟩,
 ⟨some 51, .move (.tmp 8), none, false, [], false⟩,
 ⟨some 52, .buildSlice 51 1 #[(0, .tmp 51)], none, false, [], false⟩,
 ⟨some 53, .call ⟨.builtin .append, #[.tmp 50, .tmp 52], #[51, 51]⟩, none, false, [], false⟩,
 ⟨some 5, .assign (.tmp 53), none, false, [], false⟩]))))))
 (.reg false [
 ⟨some 15, .move (.tmp 6), none, false, [], false⟩,
 ⟨some 16, .binOp .add 3 (.tmp 15) (.const (.int .i64 1)) 3, none, false, [], false⟩,
 ⟨some 6, .assign (.tmp 16), none, false, [], false⟩]))))))
 (.seq
 (.reg false [
 ⟨some 54, .move (.tmp 4), none, false, [], false⟩,
 ⟨some 55, .move (.tmp 5), none, false, [], false⟩,
 ⟨some 2, .assign (.tmp 54), none, false, [], false⟩,
 ⟨some 3, .assign (.tmp 55), none, false, [], false⟩])
 .ret)))))
noncomputable def fi81 : FI := ⟨c81, 56, [.tmp 2, .tmp 3], .plain⟩
noncomputable def c82 : XC :=
 (.seq
 (.reg false [
 ⟨some 4, .assign (.const (.bool false)), none, false, [], false⟩])
 (.seq
 (.seq
 (.reg false [
 ⟨some 6, .move (.tmp 0), none, false, [], false⟩,
 ⟨some 7, .call ⟨.builtin .len, #[.tmp 6], #[51]⟩, none, false, [], false⟩,
 ⟨some 8, .move (.tmp 1), none, false, [], false⟩,
 ⟨some 9, .call ⟨.builtin .len, #[.tmp 8], #[51]⟩, none, false, [], false⟩,
 ⟨some 10, .binOp .neq 3 (.tmp 7) (.tmp 9) 3, none, false, [], false⟩])
 (.cond (.tmp 10)
 (.seq
 (.reg false [
 ⟨some 4, .assign (.const (.bool false)), none, false, [], false⟩])
 .ret)
 .skip))
 (.seq
 (.seq
 (.reg false [
 ⟨some 5, .assign (.const (.int .i64 0)), none, false, [], false⟩])
 (.block 0
 (.loop
 (.seq
 (.seq
 (.reg false [
 ⟨some 11, .move (.tmp 5), none, false, [], false⟩,
 ⟨some 12, .move (.tmp 0), none, false, [], false⟩,
 ⟨some 13, .call ⟨.builtin .len, #[.tmp 12], #[51]⟩, none, false, [], false⟩,
 ⟨some 14, .binOp .lss 3 (.tmp 11) (.tmp 13) 3, none, false, [], false⟩])
 (.cond (.tmp 14)
 .skip
 (.exit 0)))
 (.seq
 (.block 1
 (.seq
 (.reg true [
 ⟨some 17, .move (.tmp 0), none, false, [], false⟩,
 ⟨some 18, .move (.tmp 5), none, false, [], false⟩,
 ⟨some 19, .indexAddr 51 (.tmp 17) (.tmp 18), none, false, [], false⟩,
 ⟨some 20, .load 56 (.tmp 19), none, false, [], false⟩,
 ⟨some 21, .move (.tmp 1), none, false, [], false⟩,
 ⟨some 22, .move (.tmp 5), none, false, [], false⟩,
 ⟨some 23, .indexAddr 51 (.tmp 21) (.tmp 22), none, false, [], false⟩,
 ⟨some 24, .load 56 (.tmp 23), none, false, [], false⟩,
 ⟨some 25, .call ⟨.value (.func 27), #[.tmp 20, .tmp 24], #[56, 56]⟩, none, false, [true], false⟩,
 ⟨some 26, .unOp .not 4 (.tmp 25), none, false, [], false⟩])
 (.cond (.tmp 26)
 (.seq
 (.reg false [
 ⟨some 4, .assign (.const (.bool false)), none, false, [], false⟩])
 .ret)
 .skip)))
 (.reg false [
 ⟨some 15, .move (.tmp 5), none, false, [], false⟩,
 ⟨some 16, .binOp .add 3 (.tmp 15) (.const (.int .i64 1)) 3, none, false, [], false⟩,
 ⟨some 5, .assign (.tmp 16), none, false, [], false⟩]))))))
 (.seq
 (.reg false [
 ⟨some 4, .assign (.const (.bool true)), none, false, [], false⟩])
 .ret))))
noncomputable def fi82 : FI := ⟨c82, 27, [.tmp 4], .plain⟩
noncomputable def c83 : XC :=
 (.seq
 (.reg false [
 ⟨some 1, .box 25 (.tmp 0), none, false, [], false⟩,
 ⟨some 2, .assign (.const (.slice none 0 0)), none, false, [], false⟩])
 (.seq
 (.reg false [
 ⟨some 3, .assign (.const (.slice none 0 0)), none, false, [], false⟩])
 (.seq
 (.seq
 (.reg false [
 ⟨some 4, .assign (.const (.int .i64 0)), none, false, [], false⟩])
 (.block 0
 (.loop
 (.seq
 (.seq
 (.reg false [
 ⟨some 9, .move (.tmp 4), none, false, [], false⟩,
 ⟨some 10, .fieldAddr 25 (.tmp 1) 3, none, false, [], false⟩,
 ⟨some 11, .load 22 (.tmp 10), none, false, [], false⟩,
 ⟨some 12, .call ⟨.builtin .len, #[.tmp 11], #[22]⟩, none, false, [], false⟩,
 ⟨some 13, .binOp .lss 3 (.tmp 9) (.tmp 12) 3, none, false, [], false⟩])
 (.cond (.tmp 13)
 .skip
 (.exit 0)))
 (.seq
 (.block 1
 (.seq
 (.reg false [
 ⟨some 16, .fieldAddr 25 (.tmp 1) 3, none, false, [], false⟩,
 ⟨some 17, .load 22 (.tmp 16), none, false, [], false⟩,
 ⟨some 18, .call ⟨.builtin .len, #[.tmp 17], #[22]⟩, none, false, [], false⟩,
 ⟨some 19, .makeSlice 56 (.tmp 18) (.tmp 18), none, false, [], false⟩,
 ⟨some 5, .assign (.tmp 19), none, false, [], false⟩])
 (.seq
 (.seq
 (.reg false [
 ⟨some 6, .assign (.const (.int .i64 0)), none, false, [], false⟩])
 (.block 2
 (.loop
 (.seq
 (.seq
 (.reg false [
 ⟨some 20, .move (.tmp 6), none, false, [], false⟩,
 ⟨some 21, .fieldAddr 25 (.tmp 1) 3, none, false, [], false⟩,
 ⟨some 22, .load 22 (.tmp 21), none, false, [], false⟩,
 ⟨some 23, .call ⟨.builtin .len, #[.tmp 22], #[22]⟩, none, false, [], false⟩,
 ⟨some 24, .binOp .lss 3 (.tmp 20) (.tmp 23) 3, none, false, [], false⟩])
 (.cond (.tmp 24)
 .skip
 (.exit 2)))
 (.seq
 (.block 3
 (.seq
 (.reg false [
 ⟨some 27, .move (.tmp 4), none, false, [], false⟩,
 ⟨some 28, .fieldAddr 25 (.tmp 1) 2, none, false, [], false⟩,
 ⟨some 29, .load 3 (.tmp 28), none, false, [], false⟩,
 ⟨some 30, .binOp .lss 3 (.tmp 27) (.tmp 29) 3, none, false, [], false⟩,
 ⟨some 31, .move (.tmp 30), none, false, [], false⟩,
 ⟨some 32, .load 25 (.tmp 1), some (some 31, false), false, [], false⟩,
 ⟨some 33, .move (.tmp 4), some (some 31, false), false, [], false⟩,
 ⟨some 34, .call ⟨.value (.func 132), #[.tmp 32, .const (.int .i64 0), .tmp 33], #[25, 3, 3]⟩, some (some 31, false), false, [], false⟩,
 ⟨some 35, .pick (.tmp 31) (.const (.bool true)) (.tmp 34), none, false, [], false⟩,
 ⟨some 7, .assign (.tmp 35), none, false, [], false⟩])
 (.seq
 (.reg false [
 ⟨some 36, .move (.tmp 6), none, false, [], false⟩,
 ⟨some 37, .fieldAddr 25 (.tmp 1) 2, none, false, [], false⟩,
 ⟨some 38, .load 3 (.tmp 37), none, false, [], false⟩,
 ⟨some 39, .binOp .lss 3 (.tmp 36) (.tmp 38) 3, none, false, [], false⟩,
 ⟨some 40, .move (.tmp 39), none, false, [], false⟩,
 ⟨some 41, .load 25 (.tmp 1), some (some 40, false), false, [], false⟩,
 ⟨some 42, .move (.tmp 6), some (some 40, false), false, [], false⟩,
 ⟨some 43, .call ⟨.value (.func 132), #[.tmp 41, .const (.int .i64 0), .tmp 42], #[25, 3, 3]⟩, some (some 40, false), false, [], false⟩,
 ⟨some 44, .pick (.tmp 40) (.const (.bool true)) (.tmp 43), none, false, [], false⟩,
 ⟨some 8, .assign (.tmp 44), none, false, [], false⟩])
 (.reg false [
 ⟨some 45, .move (.tmp 5), none, false, [], false⟩,
 ⟨some 46, .move (.tmp 6), none, false, [], false⟩,
 ⟨some 47, .move (.tmp 4), none, false, [], false⟩,
 ⟨some 48, .move (.tmp 6), none, false, [], false⟩,
 ⟨some 49, .binOp .neq 3 (.tmp 47) (.tmp 48) 3, none, false, [], false⟩,
 ⟨some 50, .move (.tmp 49), none, false, [], false⟩,
 ⟨some 51, .move (.tmp 7), some (some 50, true), false, [], false⟩,
 ⟨some 52, .move (.tmp 51), some (some 50, true), false, [], false⟩,
 ⟨some 53, .move (.tmp 8), some (some 52, true), false, [], false⟩,
 ⟨some 54, .pick (.tmp 52) (.tmp 53) (.const (.bool false)), some (some 50, true), false, [], false⟩,
 ⟨some 55, .move (.tmp 54), some (some 50, true), false, [], false⟩,
 ⟨some 56, .load 25 (.tmp 1), some (some 55, false), false, [], false⟩,
 ⟨some 57, .move (.tmp 4), some (some 55, false), false, [], false⟩,
 ⟨some 58, .move (.tmp 6), some (some 55, false), false, [], false⟩,
 ⟨some 59, .call ⟨.value (.func 134), #[.tmp 56, .tmp 57, .tmp 58], #[25, 3, 3]⟩, some (some 55, false), false, [], false⟩,
 ⟨some 60, .pick (.tmp 55) (.const (.bool true)) (.tmp 59), some (some 50, true), false, [], false⟩,
 ⟨some 61, .move (.tmp 60), some (some 50, true), false, [], false⟩,
 ⟨some 62, .load 25 (.tmp 1), some (some 61, false), false, [], false⟩,
 ⟨some 63, .move (.tmp 6), some (some 61, false), false, [], false⟩,
 ⟨some 64, .move (.tmp 4), some (some 61, false), false, [], false⟩,
 ⟨some 65, .call ⟨.value (.func 134), #[.tmp 62, .tmp 63, .tmp 64], #[25, 3, 3]⟩, some (some 61, false), false, [], false⟩,
 ⟨some 66, .pick (.tmp 61) (.const (.bool true)) (.tmp 65), some (some 50, true), false, [], false⟩,
 ⟨some 67, .pick (.tmp 50) (.tmp 66) (.const (.bool false)), none, false, [], false⟩,
 ⟨some 68, .indexAddr 56 (.tmp 45) (.tmp 46), none, false, [], false⟩,
 ⟨none, .store 4 (.tmp 68) (.tmp 67), none, false, [], false⟩]))))
 (.reg false [
 ⟨some 25, .move (.tmp 6), none, false, [], false⟩,
 ⟨some 26, .binOp .add 3 (.tmp 25) (.const (.int .i64 1)) 3, none, false, [], false⟩,
 ⟨some 6, .assign (.tmp 26), none, false, [], false⟩]))))))
 (.reg false [
 ⟨some 69, .move (.tmp 3), none, false, [], false⟩,
 ⟨some 70, .move (.tmp 5), none, false, [], false⟩,
 ⟨some 71, .buildSlice 51 1 #[(0, .tmp 70)], none, false, [], false⟩,
 ⟨some 72, .call ⟨.builtin .append, #[.tmp 69, .tmp 71], #[51, 51]⟩, none, false, [], false⟩,
 ⟨some 3, .assign (.tmp 72), none, false, [], false⟩]))))
 (.reg false [
 ⟨some 14, .move (.tmp 4), none, false, [], false⟩,
 ⟨some 15, .binOp .add 3 (.tmp 14) (.const (.int .i64 1)) 3, none, false, [], false⟩,
 ⟨some 4, .assign (.tmp 15), none, false, [], false⟩]))))))
 (.seq
 (.reg false [
 ⟨some 73, .move (.tmp 3), none, false, [], false⟩,
 ⟨some 2, .assign (.tmp 73), none, false, [], false⟩])
 .ret))))
noncomputable def fi83 : FI := ⟨c83, 74, [.tmp 2], .plain⟩
noncomputable def c84 : XC :=
 (.seq
 (.reg false [
 ⟨some 2, .assign (.const (.int .i64 0)), none, false, [], false⟩])
 (.block 0
 (.loop
 (.seq
 (.seq
 (.reg false [
 ⟨some 3, .move (.tmp 2), none, false, [], false⟩,
 ⟨some 4, .move (.tmp 0), none, false, [], false⟩,
 ⟨some 5, .call ⟨.builtin .len, #[.tmp 4], #[56]⟩, none, false, [], false⟩,
 ⟨some 6, .binOp .lss 3 (.tmp 3) (.tmp 5) 3, none, false, [], false⟩])
 (.cond (.tmp 6)
 .skip
 (.exit 0)))
 (.seq
 (.block 1
 (.reg false [
 ⟨some 9, .move (.tmp 0), none, false, [], false⟩,
 ⟨some 10, .move (.tmp 2), none, false, [], false⟩,
 ⟨some 11, .move (.tmp 2), none, false, [], false⟩,
 ⟨some 12, .binOp .add 3 (.tmp 11) (.const (.int .i64 7)) 3, none, false, [], false⟩,
 ⟨some 13, .call ⟨.value (.func 135), #[.tmp 12], #[3]⟩, none, false, [], false⟩,
 ⟨some 14, .indexAddr 56 (.tmp 9) (.tmp 10), none, false, [], false⟩,
 ⟨none, .store 4 (.tmp 14) (.tmp 13), none, false, [], false⟩]))
 (.reg false [
 ⟨some 7, .move (.tmp 2), none, false, [], false⟩,
 ⟨some 8, .binOp .add 3 (.tmp 7) (.const (.int .i64 1)) 3, none, false, [], false⟩,
 ⟨some 2, .assign (.tmp 8), none, false, [], false⟩]))))))
noncomputable def fi84 : FI := ⟨c84, 15, [], .plain⟩
noncomputable def c85 : XC :=
 (.seq
 (.reg false [
 ⟨some 1, .box 46 (.tmp 0), none, false, [], false⟩,
 ⟨some 2, .alloc 25, none, false, [], false⟩])
 (.seq
 (.reg false [
 ⟨some 3, .buildSlice 22 2 #[(0, .const (.int .i64 1)), (1, .const (.int .i64 1))], none, false, [], false⟩,
 ⟨some 4, .build 46 #[(0, .const (.int .i64 1)), (5, .const (.int .i64 7))], none, false, [], false⟩,
 ⟨some 5, .load 46 (.tmp 1), none, false, [], false⟩,
 ⟨some 6, .buildSlice 47 2 #[(0, .tmp 4), (1, .tmp 5)], none, false, [], false⟩,
 ⟨some 7, .build 29 #[(0, .const (.int .i64 3)), (1, .const (.int .i64 1))], none, false, [], false⟩,
 ⟨some 8, .build 49 #[(0, .tmp 6), (1, .tmp 7)], none, false, [], false⟩,
 ⟨some 9, .buildSlice 23 1 #[(0, .tmp 8)], none, false, [], false⟩,
 ⟨some 10, .build 25 #[(0, .const (.string ⟨#[109, 97, 105, 110]⟩)), (1, .const (.int .i64 1)), (3, .tmp 3), (4, .tmp 9)], none, false, [], false⟩,
 ⟨none, .store 25 (.tmp 2) (.tmp 10), none, false, [], false⟩])
 .ret))
noncomputable def fi85 : FI := ⟨c85, 11, [.cell 2 25], .plain⟩
noncomputable def c86 : XC :=
 (.seq
 (.reg false [
 ⟨some 2, .assign (.const (.bool false)), none, false, [], false⟩])
 (.seq
 (.reg false [
 ⟨some 3, .move (.tmp 0), none, false, [], false⟩,
 ⟨some 4, .binOp .eql 3 (.tmp 3) (.const (.int .i64 1)) 3, none, false, [], false⟩,
 ⟨some 5, .move (.tmp 4), none, false, [], false⟩,
 ⟨some 6, .move (.tmp 0), some (some 5, false), false, [], false⟩,
 ⟨some 7, .binOp .eql 3 (.tmp 6) (.const (.int .i64 2)) 3, some (some 5, false), false, [], false⟩,
 ⟨some 8, .pick (.tmp 5) (.const (.bool true)) (.tmp 7), none, false, [], false⟩,
 ⟨some 2, .assign (.tmp 8), none, false, [], false⟩])
 .ret))
noncomputable def fi86 : FI := ⟨c86, 9, [.tmp 2], .plain⟩
noncomputable def c87 : XC :=
 (.seq
 (.reg false [
 ⟨some 1, .box 107 (.tmp 0), none, false, [], false⟩,
 ⟨some 2, .assign (.const (.int .i64 0)), none, false, [], false⟩])
 (.seq
 (.reg false [
 ⟨some 10, .fieldAddr 107 (.tmp 1) 1, none, false, [], false⟩,
 ⟨some 11, .load 25 (.tmp 10), none, false, [], false⟩,
 ⟨some 3, .alloc 25, none, false, [], false⟩,
 ⟨none, .store 25 (.tmp 3) (.tmp 11), none, false, [], false⟩])
 (.seq
 (.block 0
 (.seq
 (.reg false [
 ⟨some 13, .fieldAddr 25 (.tmp 3) 4, none, false, [], false⟩,
 ⟨some 14, .load 23 (.tmp 13), none, false, [], false⟩,
 ⟨some 15, .call ⟨.builtin .len, #[.tmp 14], #[23]⟩, none, false, [], false⟩,
 ⟨some 16, .binOp .lss 3 (.tmp 15) (.const (.int .i64 1)) 3, none, false, [], false⟩,
 ⟨some 17, .move (.tmp 16), none, false, [], false⟩,
 ⟨some 18, .fieldAddr 25 (.tmp 3) 4, some (some 17, false), false, [], false⟩,
 ⟨some 19, .load 23 (.tmp 18), some (some 17, false), false, [], false⟩,
 ⟨some 20, .call ⟨.builtin .len, #[.tmp 19], #[23]⟩, some (some 17, false), false, [], false⟩,
 ⟨some 21, .binOp .gtr 3 (.tmp 20) (.const (.int .i64 400)) 3, some (some 17, false), false, [], false⟩,
 ⟨some 22, .pick (.tmp 17) (.const (.bool true)) (.tmp 21), none, false, [], false⟩,
 ⟨some 23, .move (.tmp 22), none, false, [], false⟩,
 ⟨some 24, .fieldAddr 25 (.tmp 3) 3, some (some 23, false), false, [], false⟩,
 ⟨some 25, .load 22 (.tmp 24), some (some 23, false), false, [], false⟩,
 ⟨some 26, .call ⟨.builtin .len, #[.tmp 25], #[22]⟩, some (some 23, false), false, [], false⟩,
 ⟨some 27, .binOp .gtr 3 (.tmp 26) (.const (.int .i64 4096)) 3, some (some 23, false), false, [], false⟩,
 ⟨some 28, .pick (.tmp 23) (.const (.bool true)) (.tmp 27), none, false, [], false⟩,
 ⟨some 12, .assign (.tmp 28), none, false, [], false⟩])
 (.cond (.tmp 12)
 (.seq
 (.reg false [
 ⟨some 2, .assign (.const (.int .i64 9)), none, false, [], false⟩])
 .ret)
 (.seq
 (.reg false [
 ⟨some 30, .fieldAddr 25 (.tmp 3) 2, none, false, [], false⟩,
 ⟨some 31, .load 3 (.tmp 30), none, false, [], false⟩,
 ⟨some 32, .binOp .lss 3 (.tmp 31) (.const (.int .i64 0)) 3, none, false, [], false⟩,
 ⟨some 33, .move (.tmp 32), none, false, [], false⟩,
 ⟨some 34, .fieldAddr 25 (.tmp 3) 2, some (some 33, false), false, [], false⟩,
 ⟨some 35, .load 3 (.tmp 34), some (some 33, false), false, [], false⟩,
 ⟨some 36, .fieldAddr 25 (.tmp 3) 3, some (some 33, false), false, [], false⟩,
 ⟨some 37, .load 22 (.tmp 36), some (some 33, false), false, [], false⟩,
 ⟨some 38, .call ⟨.builtin .len, #[.tmp 37], #[22]⟩, some (some 33, false), false, [], false⟩,
 ⟨some 39, .binOp .gtr 3 (.tmp 35) (.tmp 38) 3, some (some 33, false), false, [], false⟩,
 ⟨some 40, .pick (.tmp 33) (.const (.bool true)) (.tmp 39), none, false, [], false⟩,
 ⟨some 29, .assign (.tmp 40), none, false, [], false⟩])
 (.cond (.tmp 29)
 (.seq
 (.reg false [
 ⟨some 2, .assign (.const (.int .i64 11)), none, false, [], false⟩])
 .ret)
 (.seq
 (.reg false [
 ⟨some 42, .fieldAddr 25 (.tmp 3) 1, none, false, [], false⟩,
 ⟨some 43, .load 3 (.tmp 42), none, false, [], false⟩,
 ⟨some 44, .binOp .lss 3 (.tmp 43) (.const (.int .i64 0)) 3, none, false, [], false⟩,
 ⟨some 45, .move (.tmp 44), none, false, [], false⟩,
 ⟨some 46, .fieldAddr 25 (.tmp 3) 1, some (some 45, false), false, [], false⟩,
 ⟨some 47, .load 3 (.tmp 46), some (some 45, false), false, [], false⟩,
 ⟨some 48, .binOp .gtr 3 (.tmp 47) (.const (.int .i64 2)) 3, some (some 45, false), false, [], false⟩,
 ⟨some 49, .pick (.tmp 45) (.const (.bool true)) (.tmp 48), none, false, [], false⟩,
 ⟨some 50, .move (.tmp 49), none, false, [], false⟩,
 ⟨some 51, .fieldAddr 25 (.tmp 3) 3, some (some 50, false), false, [], false⟩,
 ⟨some 52, .load 22 (.tmp 51), some (some 50, false), false, [], false⟩,
 ⟨some 53, .call ⟨.value (.func 136), #[.tmp 52, .func 137], #[22, 99]⟩, some (some 50, false), false, [], false⟩,
 ⟨some 54, .pick (.tmp 50) (.const (.bool true)) (.tmp 53), none, false, [], false⟩,
 ⟨some 41, .assign (.tmp 54), none, false, [], false⟩])
 (.cond (.tmp 41)
 (.seq
 (.reg false [
 ⟨some 2, .assign (.const (.int .i64 6)), none, false, [], false⟩])
 .ret)
 .skip)))))))
 (.seq
 (.seq
 (.reg false [
 ⟨some 55, .fieldAddr 25 (.tmp 3) 4, none, false, [], false⟩,
 ⟨some 56, .load 23 (.tmp 55), none, false, [], false⟩,
 ⟨some 57, .call ⟨.builtin .len, #[.tmp 56], #[23]⟩, none, false, [], false⟩,
 ⟨some 58, .move (.const (.int .i64 0)), none, false, [], false⟩])
 (.block 1
 (.loop
 (.seq
 (.reg false [
 ⟨some 59, .binOp .lss 3 (.tmp 58) (.tmp 57) 3, none, false, [], false⟩])
 (.seq
 (.cond (.tmp 59)
 .skip
 (.exit 1))
 (.seq
 (.block 2
 (.seq
 (.reg false [
 ⟨some 60, .indexAddr 23 (.tmp 56) (.tmp 58), none, false, [], false⟩,
 ⟨some 61, .load 49 (.tmp 60), none, false, [], false⟩,
 ⟨some 5, .alloc 49, none, false, [], false⟩,
 ⟨none, .store 49 (.tmp 5) (.tmp 61), none, false, [], false⟩])
 (.seq
 (.seq
 (.reg false [
 ⟨some 62, .fieldAddr 49 (.tmp 5) 0, none, false, [], false⟩,
 ⟨some 63, .load 47 (.tmp 62), none, false, [], false⟩,
 ⟨some 64, .call ⟨.builtin .len, #[.tmp 63], #[47]⟩, none, false, [], false⟩,
 ⟨some 65, .move (.const (.int .i64 0)), none, false, [], false⟩])
 (.block 3
 (.loop
 (.seq
 (.reg false [
 ⟨some 66, .binOp .lss 3 (.tmp 65) (.tmp 64) 3, none, false, [], false⟩])
 (.seq
 (.cond (.tmp 66)
 .skip
 (.exit 3))
 (.seq
 (.block 4
 (.seq
 (.reg false [
 ⟨some 67, .indexAddr 47 (.tmp 63) (.tmp 65), none, false, [], false⟩,
 ⟨some 68, .load 46 (.tmp 67), none, false, [], false⟩,
 ⟨some 7, .alloc 46, none, false, [], false⟩,
 ⟨none, .store 46 (.tmp 7) (.tmp 68), none, false, [], false⟩])
 (.seq
 (.reg false [
 ⟨some 69, .load 107 (.tmp 1), none, false, [], false⟩,
 ⟨some 70, .load 46 (.tmp 7), none, false, [], false⟩,
 ⟨some 71, .call ⟨.value (.func 138), #[.tmp 69, .tmp 70], #[107, 46]⟩, none, false, [], false⟩,
 ⟨some 8, .assign (.tmp 71), none, false, [], false⟩])
 (.seq
 (.reg false [
 ⟨some 72, .move (.tmp 8), none, false, [], false⟩,
 ⟨some 73, .binOp .neq 62 (.tmp 72) (.const (.int .i64 0)) 62, none, false, [], false⟩])
 (.cond (.tmp 73)
 (.seq
 (.reg false [
 ⟨some 74, .move (.tmp 8), none, false, [], false⟩,
 ⟨some 2, .assign (.tmp 74), none, false, [], false⟩])
 .ret)
 .skip)))))
 (.reg false [
 ⟨some 75, .binOp .add 3 (.tmp 65) (.const (.int .i64 1)) 3, none, false, [], false⟩,
 ⟨some 65, .move (.tmp 75), none, false, [], false⟩])))))))
 (.seq
 (.reg false [
 ⟨some 76, .load 107 (.tmp 1), none, false, [], false⟩,
 ⟨some 77, .fieldAddr 49 (.tmp 5) 1, none, false, [], false⟩,
 ⟨some 78, .load 29 (.tmp 77), none, false, [], false⟩,
 ⟨some 79, .call ⟨.value (.func 139), #[.tmp 76, .tmp 78], #[107, 29]⟩, none, false, [], false⟩,
 ⟨some 9, .assign (.tmp 79), none, false, [], false⟩])
 (.seq
 (.reg false [
 ⟨some 80, .move (.tmp 9), none, false, [], false⟩,
 ⟨some 81, .binOp .neq 62 (.tmp 80) (.const (.int .i64 0)) 62, none, false, [], false⟩])
 (.cond (.tmp 81)
 (.seq
 (.reg false [
 ⟨some 82, .move (.tmp 9), none, false, [], false⟩,
 ⟨some 2, .assign (.tmp 82), none, false, [], false⟩])
 .ret)
 .skip))))))
 (.reg false [
 ⟨some 83, .binOp .add 3 (.tmp 58) (.const (.int .i64 1)) 3, none, false, [], false⟩,
 ⟨some 58, .move (.tmp 83), none, false, [], false⟩])))))))
 (.seq
 (.reg false [
 ⟨some 2, .assign (.const (.int .i64 0)), none, false, [], false⟩])
 .ret)))))
noncomputable def fi87 : FI := ⟨c87, 84, [.tmp 2], .plain⟩
noncomputable def c88 : XC :=
 (.seq
 (.reg false [
 ⟨some 1, .box 36 (.tmp 0), none, false, [], false⟩,
 ⟨some 2, .assign (.const (.int .i64 0)), none, false, [], false⟩])
 (.seq
 (.reg false [
 ⟨some 3, .fieldAddr 36 (.tmp 1) 1, none, false, [], false⟩,
 ⟨some 4, .load 33 (.tmp 3), none, false, [], false⟩,
 ⟨some 5, .call ⟨.value (.func 116), #[.tmp 4, .func 140], #[33, 135]⟩, none, false, [], false⟩,
 ⟨some 2, .assign (.tmp 5), none, false, [], false⟩])
 .ret))
noncomputable def fi88 : FI := ⟨c88, 6, [.tmp 2], .plain⟩
noncomputable def c93 : XC :=
 (.seq
 (.reg false [
 ⟨some 2, .assign (.const (.slice none 0 0)), none, false, [], false⟩])
 (.seq
 (.reg false [
 ⟨some 3, .assign (.const (.slice none 0 0)), none, false, [], false⟩])
 (.seq
 (.seq
 (.reg false [
 ⟨some 4, .assign (.const (.int .i64 0)), none, false, [], false⟩])
 (.block 0
 (.loop
 (.seq
 (.seq
 (.reg false [
 ⟨some 5, .move (.tmp 4), none, false, [], false⟩,
 ⟨some 6, .move (.tmp 0), none, false, [], false⟩,
 ⟨some 7, .call ⟨.builtin .len, #[.tmp 6], #[23]⟩, none, false, [], false⟩,
 ⟨some 8, .binOp .lss 3 (.tmp 5) (.tmp 7) 3, none, false, [], false⟩])
 (.cond (.tmp 8)
 .skip
 (.exit 0)))
 (.seq
 (.block 1
 (.reg true [
 ⟨some 12, .move (.tmp 0), none, false, [], false⟩,
 ⟨some 13, .move (.tmp 4), none, false, [], false⟩,
 ⟨some 14, .indexAddr 23 (.tmp 12) (.tmp 13), none, false, [], false⟩,
 ⟨some 15, .fieldAddr 49 (.tmp 14) 0, none, false, [], false⟩,
 ⟨some 16, .load 47 (.tmp 15), none, false, [], false⟩,
 ⟨some 17, .call ⟨.value (.func 147), #[.tmp 16], #[47]⟩, none, true, [false, false, false, false, false, true, true, false, true, true], false⟩,
 ⟨some 18, .move (.tmp 0), none, false, [], false⟩,
 ⟨some 19, .move (.tmp 4), none, false, [], false⟩,
 ⟨some 20, .indexAddr 23 (.tmp 18) (.tmp 19), none, false, [], false⟩,
 ⟨some 21, .fieldAddr 49 (.tmp 20) 1, none, false, [], false⟩,
 ⟨some 22, .load 29 (.tmp 21), none, false, [], true⟩,
 ⟨some 23, .build 49 #[(0, .tmp 17), (1, .tmp 22)], none, false, [], false⟩,
 ⟨some 24, .buildSlice 23 1 #[(0, .tmp 23)], none, false, [], false⟩,
 ⟨some 11, .move (.tmp 3), none, false, [], false⟩,
 ⟨some 25, .call ⟨.builtin .append, #[.tmp 11, .tmp 24], #[23, 23]⟩, none, false, [true], false⟩,
 ⟨some 3, .assign (.tmp 25), none, false, [], false⟩]))
 (.reg false [
 ⟨some 9, .move (.tmp 4), none, false, [], false⟩,
 ⟨some 10, .binOp .add 3 (.tmp 9) (.const (.int .i64 1)) 3, none, false, [], false⟩,
 ⟨some 4, .assign (.tmp 10), none, false, [], false⟩]))))))
 (.seq
 (.reg false [
 ⟨some 26, .move (.tmp 3), none, false, [], false⟩,
 ⟨some 2, .assign (.tmp 26), none, false, [], false⟩])
 .ret))))
noncomputable def fi93 : FI := ⟨c93, 27, [.tmp 2], .plain⟩
noncomputable def c100 : XC :=
 (.seq
 (.reg false [
 ⟨some 4, .call ⟨.builtin .recover, #[], #[]⟩, none, false, [], false⟩,
 ⟨some 2, .assign (.tmp 4), none, false, [], false⟩])
 (.seq
 (.reg false [
 ⟨some 5, .move (.tmp 2), none, false, [], false⟩,
 ⟨some 6, .binOp .neq 20 (.tmp 5) (.const .nilIface) 20, none, false, [], false⟩])
 (.cond (.tmp 6)
 (.seq
 (.reg false [
 ⟨some 7, .move (.tmp 2), none, false, [], false⟩,
 ⟨some 8, .typeAssert (.tmp 7) 20 118 false, none, false, [], false⟩,
 ⟨some 3, .alloc 118, none, false, [], false⟩,
 ⟨none, .store 118 (.tmp 3) (.tmp 8), none, false, [], false⟩])
 (.reg true [
 ⟨some 9, .load 114 (.tmp 0), none, false, [], false⟩,
 ⟨some 10, .nilCheck (.tmp 9), none, false, [], false⟩,
 ⟨some 11, .fieldAddr 116 (.tmp 10) 4, none, false, [], false⟩,
 ⟨some 12, .fieldAddr 66 (.tmp 11) 0, none, false, [], false⟩,
 ⟨some 13, .load 22 (.tmp 12), none, false, [], false⟩,
 ⟨some 14, .fieldAddr 118 (.tmp 3) 0, none, false, [], false⟩,
 ⟨some 15, .load 3 (.tmp 14), none, false, [], false⟩,
 ⟨some 16, .fieldAddr 118 (.tmp 3) 1, none, false, [], false⟩,
 ⟨some 17, .load 3 (.tmp 16), none, false, [], false⟩,
 ⟨some 18, .build 66 #[(0, .tmp 13), (1, .tmp 15), (2, .tmp 17)], none, false, [], false⟩,
 ⟨none, .store 66 (.tmp 1) (.tmp 18), none, false, [], false⟩]))
 .skip)))
noncomputable def fi100 : FI := ⟨c100, 19, [], .rcv 4 2 (.seq
 (.reg false [
 ⟨some 5, .move (.tmp 2), none, false, [], false⟩,
 ⟨some 6, .binOp .neq 20 (.tmp 5) (.const .nilIface) 20, none, false, [], false⟩])
 (.cond (.tmp 6)
 (.seq
 (.reg false [
 ⟨some 7, .move (.tmp 2), none, false, [], false⟩,
 ⟨some 8, .typeAssert (.tmp 7) 20 118 false, none, false, [], false⟩,
 ⟨some 3, .alloc 118, none, false, [], false⟩,
 ⟨none, .store 118 (.tmp 3) (.tmp 8), none, false, [], false⟩])
 (.reg true [
 ⟨some 9, .load 114 (.tmp 0), none, false, [], false⟩,
 ⟨some 10, .nilCheck (.tmp 9), none, false, [], false⟩,
 ⟨some 11, .fieldAddr 116 (.tmp 10) 4, none, false, [], false⟩,
 ⟨some 12, .fieldAddr 66 (.tmp 11) 0, none, false, [], false⟩,
 ⟨some 13, .load 22 (.tmp 12), none, false, [], false⟩,
 ⟨some 14, .fieldAddr 118 (.tmp 3) 0, none, false, [], false⟩,
 ⟨some 15, .load 3 (.tmp 14), none, false, [], false⟩,
 ⟨some 16, .fieldAddr 118 (.tmp 3) 1, none, false, [], false⟩,
 ⟨some 17, .load 3 (.tmp 16), none, false, [], false⟩,
 ⟨some 18, .build 66 #[(0, .tmp 13), (1, .tmp 15), (2, .tmp 17)], none, false, [], false⟩,
 ⟨none, .store 66 (.tmp 1) (.tmp 18), none, false, [], false⟩]))
 .skip))⟩
noncomputable def c101 : XC :=
 (.seq
 (.reg false [
 ⟨some 6, .assign (.const (.int .i64 0)), none, false, [], false⟩])
 (.seq
 (.seq
 (.reg false [
 ⟨some 13, .move (.tmp 0), none, false, [], false⟩,
 ⟨some 14, .nilCheck (.tmp 13), none, false, [], false⟩,
 ⟨some 15, .fieldAddr 116 (.tmp 14) 5, none, false, [], false⟩,
 ⟨some 16, .load 3 (.tmp 15), none, false, [], false⟩,
 ⟨some 17, .binOp .geq 3 (.tmp 16) (.const (.int .i64 32)) 3, none, false, [], false⟩])
 (.cond (.tmp 17)
 (.reg false [
 ⟨some 18, .call ⟨.value (.func 154), #[.const (.int .i64 4)], #[3]⟩, none, false, [], false⟩])
 .skip))
 (.seq
 (.reg false [
 ⟨some 19, .move (.tmp 0), none, false, [], false⟩,
 ⟨some 20, .nilCheck (.tmp 19), none, false, [], false⟩,
 ⟨some 21, .fieldAddr 116 (.tmp 20) 5, none, false, [], false⟩,
 ⟨some 22, .load 3 (.tmp 21), none, false, [], false⟩,
 ⟨some 23, .binOp .add 3 (.tmp 22) (.const (.int .i64 1)) 3, none, false, [], false⟩,
 ⟨some 24, .nilCheck (.tmp 19), none, false, [], false⟩,
 ⟨some 25, .fieldAddr 116 (.tmp 24) 5, none, false, [], false⟩,
 ⟨none, .store 3 (.tmp 25) (.tmp 23), none, false, [], false⟩])
 (.seq
 (.reg false [
 ⟨some 26, .move (.tmp 0), none, false, [], false⟩,
 ⟨some 27, .nilCheck (.tmp 26), none, false, [], false⟩,
 ⟨some 28, .fieldAddr 116 (.tmp 27) 0, none, false, [], false⟩,
 ⟨some 29, .fieldAddr 36 (.tmp 28) 1, none, false, [], false⟩,
 ⟨some 30, .load 33 (.tmp 29), none, false, [], false⟩,
 ⟨some 31, .move (.tmp 1), none, false, [], false⟩,
 ⟨some 32, .indexAddr 33 (.tmp 30) (.tmp 31), none, false, [], false⟩,
 ⟨some 33, .load 25 (.tmp 32), none, false, [], false⟩,
 ⟨some 7, .alloc 25, none, false, [], false⟩,
 ⟨none, .store 25 (.tmp 7) (.tmp 33), none, false, [], false⟩])
 (.seq
 (.reg false [
 ⟨some 34, .fieldAddr 25 (.tmp 7) 3, none, false, [], false⟩,
 ⟨some 35, .load 22 (.tmp 34), none, false, [], false⟩,
 ⟨some 36, .call ⟨.builtin .len, #[.tmp 35], #[22]⟩, none, false, [], false⟩,
 ⟨some 37, .makeSlice 22 (.tmp 36) (.tmp 36), none, false, [], false⟩,
 ⟨some 8, .assign (.tmp 37), none, false, [], false⟩])
 (.seq
 (.reg false [
 ⟨some 38, .move (.tmp 8), none, false, [], false⟩,
 ⟨some 39, .move (.tmp 2), none, false, [], false⟩,
 ⟨some 40, .call ⟨.builtin .copy, #[.tmp 38, .tmp 39], #[22, 22]⟩, none, false, [], false⟩])
 (.seq
 (.reg false [
 ⟨some 9, .assign (.const (.int .i64 0)), none, false, [], false⟩])
 (.block 0
 (.loop
 (.block 1
 (.seq
 (.seq
 (.reg false [
 ⟨some 41, .fieldAddr 25 (.tmp 7) 4, none, false, [], false⟩,
 ⟨some 42, .load 23 (.tmp 41), none, false, [], false⟩,
 ⟨some 43, .move (.tmp 9), none, false, [], false⟩,
 ⟨some 44, .indexAddr 23 (.tmp 42) (.tmp 43), none, false, [], false⟩,
 ⟨some 45, .fieldAddr 49 (.tmp 44) 0, none, false, [], false⟩,
 ⟨some 46, .load 47 (.tmp 45), none, false, [], false⟩,
 ⟨some 47, .call ⟨.builtin .len, #[.tmp 46], #[47]⟩, none, false, [], false⟩,
 ⟨some 48, .move (.const (.int .i64 0)), none, false, [], false⟩])
 (.block 2
 (.loop
 (.seq
 (.reg false [
 ⟨some 49, .binOp .lss 3 (.tmp 48) (.tmp 47) 3, none, false, [], false⟩])
 (.seq
 (.cond (.tmp 49)
 .skip
 (.exit 2))
 (.seq
 (.block 3
 (.seq
 (.reg false [
 ⟨some 50, .indexAddr 47 (.tmp 46) (.tmp 48), none, false, [], false⟩,
 ⟨some 51, .load 46 (.tmp 50), none, false, [], false⟩,
 ⟨some 11, .alloc 46, none, false, [], false⟩,
 ⟨none, .store 46 (.tmp 11) (.tmp 51), none, false, [], false⟩])
 (.seq
 (.reg false [
 ⟨some 52, .move (.tmp 0), none, false, [], false⟩,
 ⟨some 53, .call ⟨.value (.func 155), #[.tmp 52], #[114]⟩, none, false, [], false⟩])
 (.seq
 (.reg false [
 ⟨some 54, .fieldAddr 46 (.tmp 11) 0, none, false, [], false⟩,
 ⟨some 55, .load 3 (.tmp 54), none, false, [], false⟩,
 ⟨some 56, .binOp .eql 3 (.tmp 55) (.const (.int .i64 9)) 3, none, false, [], false⟩])
 (.cond (.tmp 56)
 (.reg false [
 ⟨some 57, .move (.tmp 0), none, false, [], false⟩,
 ⟨some 58, .load 46 (.tmp 11), none, false, [], false⟩,
 ⟨some 59, .move (.tmp 8), none, false, [], false⟩,
 ⟨some 60, .call ⟨.value (.func 156), #[.tmp 57, .tmp 58, .tmp 59], #[114, 46, 22]⟩, none, false, [], false⟩])
 (.reg false [
 ⟨some 61, .move (.tmp 0), none, false, [], false⟩,
 ⟨some 62, .load 46 (.tmp 11), none, false, [], false⟩,
 ⟨some 63, .move (.tmp 8), none, false, [], false⟩,
 ⟨some 64, .call ⟨.value (.func 157), #[.tmp 61, .tmp 62, .tmp 63], #[114, 46, 22]⟩, none, false, [], false⟩]))))))
 (.reg false [
 ⟨some 65, .binOp .add 3 (.tmp 48) (.const (.int .i64 1)) 3, none, false, [], false⟩,
 ⟨some 48, .move (.tmp 65), none, false, [], false⟩])))))))
 (.seq
 (.reg false [
 ⟨some 66, .move (.tmp 0), none, false, [], false⟩,
 ⟨some 67, .call ⟨.value (.func 155), #[.tmp 66], #[114]⟩, none, false, [], false⟩])
 (.seq
 (.reg false [
 ⟨some 68, .fieldAddr 25 (.tmp 7) 4, none, false, [], false⟩,
 ⟨some 69, .load 23 (.tmp 68), none, false, [], false⟩,
 ⟨some 70, .move (.tmp 9), none, false, [], false⟩,
 ⟨some 71, .indexAddr 23 (.tmp 69) (.tmp 70), none, false, [], false⟩,
 ⟨some 72, .fieldAddr 49 (.tmp 71) 1, none, false, [], false⟩,
 ⟨some 73, .load 29 (.tmp 72), none, false, [], false⟩,
 ⟨some 12, .alloc 29, none, false, [], false⟩,
 ⟨none, .store 29 (.tmp 12) (.tmp 73), none, false, [], false⟩])
 (.block 4
 (.seq
 (.reg false [
 ⟨some 77, .fieldAddr 29 (.tmp 12) 0, none, false, [], false⟩,
 ⟨some 78, .load 3 (.tmp 77), none, false, [], false⟩,
 ⟨some 79, .binOp .eql 3 (.tmp 78) (.const (.int .i64 3)) 3, none, false, [], false⟩,
 ⟨some 76, .assign (.tmp 79), none, false, [], false⟩])
 (.cond (.tmp 76)
 (.seq
 (.reg false [
 ⟨some 80, .move (.tmp 0), none, false, [], false⟩,
 ⟨some 81, .nilCheck (.tmp 80), none, false, [], false⟩,
 ⟨some 82, .fieldAddr 116 (.tmp 81) 5, none, false, [], false⟩,
 ⟨some 83, .load 3 (.tmp 82), none, false, [], false⟩,
 ⟨some 84, .binOp .sub 3 (.tmp 83) (.const (.int .i64 1)) 3, none, false, [], false⟩,
 ⟨some 85, .nilCheck (.tmp 80), none, false, [], false⟩,
 ⟨some 86, .fieldAddr 116 (.tmp 85) 5, none, false, [], false⟩,
 ⟨none, .store 3 (.tmp 86) (.tmp 84), none, false, [], false⟩])
 (.seq
 (.seq
 (.reg false [
 ⟨some 87, .fieldAddr 29 (.tmp 12) 1, none, false, [], false⟩,
 ⟨some 88, .load 3 (.tmp 87), none, false, [], false⟩,
 ⟨some 89, .binOp .lss 3 (.tmp 88) (.const (.int .i64 0)) 3, none, false, [], false⟩])
 (.cond (.tmp 89)
 (.seq
 (.reg false [
 ⟨some 6, .assign (.const (.int .i64 0)), none, false, [], false⟩])
 .ret)
 .skip))
 (.seq
 (.reg false [
 ⟨some 90, .move (.tmp 8), none, false, [], false⟩,
 ⟨some 91, .fieldAddr 29 (.tmp 12) 1, none, false, [], false⟩,
 ⟨some 92, .load 3 (.tmp 91), none, false, [], false⟩,
 ⟨some 93, .indexAddr 22 (.tmp 90) (.tmp 92), none, false, [], false⟩,
 ⟨some 94, .load 3 (.tmp 93), none, false, [], false⟩,
 ⟨some 6, .assign (.tmp 94), none, false, [], false⟩])
 .ret)))
 (.seq
 (.reg false [
 ⟨some 96, .fieldAddr 29 (.tmp 12) 0, none, false, [], false⟩,
 ⟨some 97, .load 3 (.tmp 96), none, false, [], false⟩,
 ⟨some 98, .binOp .eql 3 (.tmp 97) (.const (.int .i64 2)) 3, none, false, [], false⟩,
 ⟨some 99, .move (.tmp 98), none, false, [], false⟩,
 ⟨some 100, .move (.tmp 8), some (some 99, true), false, [], false⟩,
 ⟨some 101, .fieldAddr 29 (.tmp 12) 1, some (some 99, true), false, [], false⟩,
 ⟨some 102, .load 3 (.tmp 101), some (some 99, true), false, [], false⟩,
 ⟨some 103, .indexAddr 22 (.tmp 100) (.tmp 102), some (some 99, true), false, [], false⟩,
 ⟨some 104, .load 3 (.tmp 103), some (some 99, true), false, [], false⟩,
 ⟨some 105, .binOp .eql 3 (.tmp 104) (.const (.int .i64 0)) 3, some (some 99, true), false, [], false⟩,
 ⟨some 106, .pick (.tmp 99) (.tmp 105) (.const (.bool false)), none, false, [], false⟩,
 ⟨some 95, .assign (.tmp 106), none, false, [], false⟩])
 (.cond (.tmp 95)
 (.reg false [
 ⟨some 107, .fieldAddr 29 (.tmp 12) 3, none, false, [], false⟩,
 ⟨some 108, .load 3 (.tmp 107), none, false, [], false⟩,
 ⟨some 9, .assign (.tmp 108), none, false, [], false⟩])
 (.reg false [
 ⟨some 74, .fieldAddr 29 (.tmp 12) 2, none, false, [], false⟩,
 ⟨some 75, .load 3 (.tmp 74), none, false, [], false⟩,
 ⟨some 9, .assign (.tmp 75), none, false, [], false⟩])))))))))))))))))))
noncomputable def fi101 : FI := ⟨c101, 109, [.tmp 6], .plain⟩
noncomputable def c108 : XC :=
 (.seq
 (.reg false [
 ⟨some 1, .box 36 (.tmp 0), none, false, [], false⟩,
 ⟨some 2, .assign (.const (.bool false)), none, false, [], false⟩])
 (.seq
 (.seq
 (.reg false [
 ⟨some 9, .fieldAddr 36 (.tmp 1) 0, none, false, [], false⟩,
 ⟨some 10, .load 34 (.tmp 9), none, false, [], false⟩,
 ⟨some 11, .call ⟨.builtin .len, #[.tmp 10], #[34]⟩, none, false, [], false⟩,
 ⟨some 12, .binOp .gtr 3 (.tmp 11) (.const (.int .i64 20)) 3, none, false, [], false⟩,
 ⟨some 13, .move (.tmp 12), none, false, [], false⟩,
 ⟨some 14, .fieldAddr 36 (.tmp 1) 1, some (some 13, false), false, [], false⟩,
 ⟨some 15, .load 33 (.tmp 14), some (some 13, false), false, [], false⟩,
 ⟨some 16, .call ⟨.builtin .len, #[.tmp 15], #[33]⟩, some (some 13, false), false, [], false⟩,
 ⟨some 17, .binOp .gtr 3 (.tmp 16) (.const (.int .i64 12)) 3, some (some 13, false), false, [], false⟩,
 ⟨some 18, .pick (.tmp 13) (.const (.bool true)) (.tmp 17), none, false, [], false⟩])
 (.cond (.tmp 18)
 (.seq
 (.reg false [
 ⟨some 2, .assign (.const (.bool true)), none, false, [], false⟩])
 .ret)
 .skip))
 (.seq
 (.reg false [
 ⟨some 3, .assign (.const (.int .i64 0)), none, false, [], false⟩])
 (.seq
 (.seq
 (.reg false [
 ⟨some 4, .assign (.const (.int .i64 0)), none, false, [], false⟩])
 (.block 0
 (.loop
 (.seq
 (.seq
 (.reg false [
 ⟨some 19, .move (.tmp 4), none, false, [], false⟩,
 ⟨some 20, .fieldAddr 36 (.tmp 1) 0, none, false, [], false⟩,
 ⟨some 21, .load 34 (.tmp 20), none, false, [], false⟩,
 ⟨some 22, .call ⟨.builtin .len, #[.tmp 21], #[34]⟩, none, false, [], false⟩,
 ⟨some 23, .binOp .lss 3 (.tmp 19) (.tmp 22) 3, none, false, [], false⟩])
 (.cond (.tmp 23)
 .skip
 (.exit 0)))
 (.seq
 (.block 1
 (.seq
 (.reg false [
 ⟨some 26, .fieldAddr 36 (.tmp 1) 0, none, false, [], false⟩,
 ⟨some 27, .load 34 (.tmp 26), none, false, [], false⟩,
 ⟨some 28, .move (.tmp 4), none, false, [], false⟩,
 ⟨some 29, .indexAddr 34 (.tmp 27) (.tmp 28), none, false, [], false⟩,
 ⟨some 30, .fieldAddr 105 (.tmp 29) 2, none, false, [], false⟩,
 ⟨some 31, .load 3 (.tmp 30), none, false, [], false⟩,
 ⟨some 32, .binOp .gtr 3 (.tmp 31) (.const (.int .i64 1024)) 3, none, false, [], false⟩])
 (.cond (.tmp 32)
 (.seq
 (.reg false [
 ⟨some 2, .assign (.const (.bool true)), none, false, [], false⟩])
 .ret)
 .skip)))
 (.reg false [
 ⟨some 24, .move (.tmp 4), none, false, [], false⟩,
 ⟨some 25, .binOp .add 3 (.tmp 24) (.const (.int .i64 1)) 3, none, false, [], false⟩,
 ⟨some 4, .assign (.tmp 25), none, false, [], false⟩]))))))
 (.seq
 (.seq
 (.reg false [
 ⟨some 5, .assign (.const (.int .i64 0)), none, false, [], false⟩])
 (.block 2
 (.loop
 (.seq
 (.seq
 (.reg false [
 ⟨some 33, .move (.tmp 5), none, false, [], false⟩,
 ⟨some 34, .fieldAddr 36 (.tmp 1) 1, none, false, [], false⟩,
 ⟨some 35, .load 33 (.tmp 34), none, false, [], false⟩,
 ⟨some 36, .call ⟨.builtin .len, #[.tmp 35], #[33]⟩, none, false, [], false⟩,
 ⟨some 37, .binOp .lss 3 (.tmp 33) (.tmp 36) 3, none, false, [], false⟩])
 (.cond (.tmp 37)
 .skip
 (.exit 2)))
 (.seq
 (.block 3
 (.seq
 (.reg false [
 ⟨some 40, .fieldAddr 36 (.tmp 1) 1, none, false, [], false⟩,
 ⟨some 41, .load 33 (.tmp 40), none, false, [], false⟩,
 ⟨some 42, .move (.tmp 5), none, false, [], false⟩,
 ⟨some 43, .indexAddr 33 (.tmp 41) (.tmp 42), none, false, [], false⟩,
 ⟨some 44, .load 25 (.tmp 43), none, false, [], false⟩,
 ⟨some 6, .alloc 25, none, false, [], false⟩,
 ⟨none, .store 25 (.tmp 6) (.tmp 44), none, false, [], false⟩])
 (.seq
 (.reg false [
 ⟨some 45, .move (.tmp 3), none, false, [], false⟩,
 ⟨some 46, .fieldAddr 25 (.tmp 6) 3, none, false, [], false⟩,
 ⟨some 47, .load 22 (.tmp 46), none, false, [], false⟩,
 ⟨some 48, .call ⟨.builtin .len, #[.tmp 47], #[22]⟩, none, false, [], false⟩,
 ⟨some 49, .binOp .add 3 (.tmp 45) (.tmp 48) 3, none, false, [], false⟩,
 ⟨some 50, .fieldAddr 25 (.tmp 6) 4, none, false, [], false⟩,
 ⟨some 51, .load 23 (.tmp 50), none, false, [], false⟩,
 ⟨some 52, .call ⟨.builtin .len, #[.tmp 51], #[23]⟩, none, false, [], false⟩,
 ⟨some 53, .binOp .add 3 (.tmp 49) (.tmp 52) 3, none, false, [], false⟩,
 ⟨some 3, .assign (.tmp 53), none, false, [], false⟩])
 (.seq
 (.seq
 (.reg false [
 ⟨some 7, .assign (.const (.int .i64 0)), none, false, [], false⟩])
 (.block 4
 (.loop
 (.seq
 (.seq
 (.reg false [
 ⟨some 54, .move (.tmp 7), none, false, [], false⟩,
 ⟨some 55, .fieldAddr 25 (.tmp 6) 4, none, false, [], false⟩,
 ⟨some 56, .load 23 (.tmp 55), none, false, [], false⟩,
 ⟨some 57, .call ⟨.builtin .len, #[.tmp 56], #[23]⟩, none, false, [], false⟩,
 ⟨some 58, .binOp .lss 3 (.tmp 54) (.tmp 57) 3, none, false, [], false⟩])
 (.cond (.tmp 58)
 .skip
 (.exit 4)))
 (.seq
 (.block 5
 (.seq
 (.reg false [
 ⟨some 61, .move (.tmp 3), none, false, [], false⟩,
 ⟨some 62, .fieldAddr 25 (.tmp 6) 4, none, false, [], false⟩,
 ⟨some 63, .load 23 (.tmp 62), none, false, [], false⟩,
 ⟨some 64, .move (.tmp 7), none, false, [], false⟩,
 ⟨some 65, .indexAddr 23 (.tmp 63) (.tmp 64), none, false, [], false⟩,
 ⟨some 66, .fieldAddr 49 (.tmp 65) 0, none, false, [], false⟩,
 ⟨some 67, .load 47 (.tmp 66), none, false, [], false⟩,
 ⟨some 68, .call ⟨.builtin .len, #[.tmp 67], #[47]⟩, none, false, [], false⟩,
 ⟨some 69, .binOp .add 3 (.tmp 61) (.tmp 68) 3, none, false, [], false⟩,
 ⟨some 3, .assign (.tmp 69), none, false, [], false⟩])
 (.seq
 (.reg false [
 ⟨some 8, .assign (.const (.int .i64 0)), none, false, [], false⟩])
 (.block 6
 (.loop
 (.seq
 (.seq
 (.reg false [
 ⟨some 70, .move (.tmp 8), none, false, [], false⟩,
 ⟨some 71, .fieldAddr 25 (.tmp 6) 4, none, false, [], false⟩,
 ⟨some 72, .load 23 (.tmp 71), none, false, [], false⟩,
 ⟨some 73, .move (.tmp 7), none, false, [], false⟩,
 ⟨some 74, .indexAddr 23 (.tmp 72) (.tmp 73), none, false, [], false⟩,
 ⟨some 75, .fieldAddr 49 (.tmp 74) 0, none, false, [], false⟩,
 ⟨some 76, .load 47 (.tmp 75), none, false, [], false⟩,
 ⟨some 77, .call ⟨.builtin .len, #[.tmp 76], #[47]⟩, none, false, [], false⟩,
 ⟨some 78, .binOp .lss 3 (.tmp 70) (.tmp 77) 3, none, false, [], false⟩])
 (.cond (.tmp 78)
 .skip
 (.exit 6)))
 (.seq
 (.block 7
 (.reg false [
 ⟨some 81, .move (.tmp 3), none, false, [], false⟩,
 ⟨some 82, .fieldAddr 25 (.tmp 6) 4, none, false, [], false⟩,
 ⟨some 83, .load 23 (.tmp 82), none, false, [], false⟩,
 ⟨some 84, .move (.tmp 7), none, false, [], false⟩,
 ⟨some 85, .indexAddr 23 (.tmp 83) (.tmp 84), none, false, [], false⟩,
 ⟨some 86, .fieldAddr 49 (.tmp 85) 0, none, false, [], false⟩,
 ⟨some 87, .load 47 (.tmp 86), none, false, [], false⟩,
 ⟨some 88, .move (.tmp 8), none, false, [], false⟩,
 ⟨some 89, .indexAddr 47 (.tmp 87) (.tmp 88), none, false, [], false⟩,
 ⟨some 90, .fieldAddr 46 (.tmp 89) 7, none, false, [], false⟩,
 ⟨some 91, .load 22 (.tmp 90), none, false, [], false⟩,
 ⟨some 92, .call ⟨.builtin .len, #[.tmp 91], #[22]⟩, none, false, [], false⟩,
 ⟨some 93, .binOp .add 3 (.tmp 81) (.tmp 92) 3, none, false, [], false⟩,
 ⟨some 3, .assign (.tmp 93), none, false, [], false⟩]))
 (.reg false [
 ⟨some 79, .move (.tmp 8), none, false, [], false⟩,
 ⟨some 80, .binOp .add 3 (.tmp 79) (.const (.int .i64 1)) 3, none, false, [], false⟩,
 ⟨some 8, .assign (.tmp 80), none, false, [], false⟩]))))))))
 (.reg false [
 ⟨some 59, .move (.tmp 7), none, false, [], false⟩,
 ⟨some 60, .binOp .add 3 (.tmp 59) (.const (.int .i64 1)) 3, none, false, [], false⟩,
 ⟨some 7, .assign (.tmp 60), none, false, [], false⟩]))))))
 (.seq
 (.reg false [
 ⟨some 94, .move (.tmp 3), none, false, [], false⟩,
 ⟨some 95, .binOp .gtr 3 (.tmp 94) (.const (.int .i64 3000)) 3, none, false, [], false⟩])
 (.cond (.tmp 95)
 (.seq
 (.reg false [
 ⟨some 2, .assign (.const (.bool true)), none, false, [], false⟩])
 .ret)
 .skip))))))
 (.reg false [
 ⟨some 38, .move (.tmp 5), none, false, [], false⟩,
 ⟨some 39, .binOp .add 3 (.tmp 38) (.const (.int .i64 1)) 3, none, false, [], false⟩,
 ⟨some 5, .assign (.tmp 39), none, false, [], false⟩]))))))
 (.seq
 (.reg false [
 ⟨some 2, .assign (.const (.bool false)), none, false, [], false⟩])
 .ret))))))
noncomputable def fi108 : FI := ⟨c108, 96, [.tmp 2], .plain⟩
noncomputable def c109 : XC :=
 (.seq
 (.reg false [
 ⟨some 2, .assign (.const (.slice none 0 0)), none, false, [], false⟩])
 (.seq
 (.reg false [
 ⟨some 3, .assign (.const (.slice none 0 0)), none, false, [], false⟩])
 (.seq
 (.seq
 (.reg false [
 ⟨some 4, .assign (.const (.int .i64 0)), none, false, [], false⟩])
 (.block 0
 (.loop
 (.seq
 (.seq
 (.reg false [
 ⟨some 5, .move (.tmp 4), none, false, [], false⟩,
 ⟨some 6, .move (.tmp 0), none, false, [], false⟩,
 ⟨some 7, .call ⟨.builtin .len, #[.tmp 6], #[22]⟩, none, false, [], false⟩,
 ⟨some 8, .binOp .lss 3 (.tmp 5) (.tmp 7) 3, none, false, [], false⟩])
 (.cond (.tmp 8)
 .skip
 (.exit 0)))
 (.seq
 (.block 1
 (.reg false [
 ⟨some 11, .move (.tmp 3), none, false, [], false⟩,
 ⟨some 12, .move (.tmp 0), none, false, [], false⟩,
 ⟨some 13, .move (.tmp 4), none, false, [], false⟩,
 ⟨some 14, .indexAddr 22 (.tmp 12) (.tmp 13), none, false, [], false⟩,
 ⟨some 15, .load 3 (.tmp 14), none, false, [], false⟩,
 ⟨some 16, .buildSlice 22 1 #[(0, .tmp 15)], none, false, [], false⟩,
 ⟨some 17, .call ⟨.builtin .append, #[.tmp 11, .tmp 16], #[22, 22]⟩, none, false, [], false⟩,
 ⟨some 3, .assign (.tmp 17), none, false, [], false⟩]))
 (.reg false [
 ⟨some 9, .move (.tmp 4), none, false, [], false⟩,
 ⟨some 10, .binOp .add 3 (.tmp 9) (.const (.int .i64 1)) 3, none, false, [], false⟩,
 ⟨some 4, .assign (.tmp 10), none, false, [], false⟩]))))))
 (.seq
 (.reg false [
 ⟨some 18, .move (.tmp 3), none, false, [], false⟩,
 ⟨some 2, .assign (.tmp 18), none, false, [], false⟩])
 .ret))))
noncomputable def fi109 : FI := ⟨c109, 19, [.tmp 2], .plain⟩
noncomputable def c114 : XC :=
 (.seq
 (.reg false [
 ⟨some 2, .box 46 (.tmp 0), none, false, [], false⟩,
 ⟨some 3, .box 46 (.tmp 1), none, false, [], false⟩,
 ⟨some 4, .assign (.const (.bool false)), none, false, [], false⟩])
 (.seq
 (.reg false [
 ⟨some 5, .fieldAddr 46 (.tmp 2) 0, none, false, [], false⟩,
 ⟨some 6, .load 3 (.tmp 5), none, false, [], false⟩,
 ⟨some 7, .fieldAddr 46 (.tmp 3) 0, none, false, [], false⟩,
 ⟨some 8, .load 3 (.tmp 7), none, false, [], false⟩,
 ⟨some 9, .binOp .eql 3 (.tmp 6) (.tmp 8) 3, none, false, [], false⟩,
 ⟨some 10, .move (.tmp 9), none, false, [], false⟩,
 ⟨some 11, .fieldAddr 46 (.tmp 2) 1, some (some 10, true), false, [], false⟩,
 ⟨some 12, .load 3 (.tmp 11), some (some 10, true), false, [], false⟩,
 ⟨some 13, .fieldAddr 46 (.tmp 3) 1, some (some 10, true), false, [], false⟩,
 ⟨some 14, .load 3 (.tmp 13), some (some 10, true), false, [], false⟩,
 ⟨some 15, .binOp .eql 3 (.tmp 12) (.tmp 14) 3, some (some 10, true), false, [], false⟩,
 ⟨some 16, .pick (.tmp 10) (.tmp 15) (.const (.bool false)), none, false, [], false⟩,
 ⟨some 17, .move (.tmp 16), none, false, [], false⟩,
 ⟨some 18, .fieldAddr 46 (.tmp 2) 2, some (some 17, true), false, [], false⟩,
 ⟨some 19, .load 3 (.tmp 18), some (some 17, true), false, [], false⟩,
 ⟨some 20, .fieldAddr 46 (.tmp 3) 2, some (some 17, true), false, [], false⟩,
 ⟨some 21, .load 3 (.tmp 20), some (some 17, true), false, [], false⟩,
 ⟨some 22, .binOp .eql 3 (.tmp 19) (.tmp 21) 3, some (some 17, true), false, [], false⟩,
 ⟨some 23, .pick (.tmp 17) (.tmp 22) (.const (.bool false)), none, false, [], false⟩,
 ⟨some 24, .move (.tmp 23), none, false, [], false⟩,
 ⟨some 25, .fieldAddr 46 (.tmp 2) 3, some (some 24, true), false, [], false⟩,
 ⟨some 26, .load 3 (.tmp 25), some (some 24, true), false, [], false⟩,
 ⟨some 27, .fieldAddr 46 (.tmp 3) 3, some (some 24, true), false, [], false⟩,
 ⟨some 28, .load 3 (.tmp 27), some (some 24, true), false, [], false⟩,
 ⟨some 29, .binOp .eql 3 (.tmp 26) (.tmp 28) 3, some (some 24, true), false, [], false⟩,
 ⟨some 30, .pick (.tmp 24) (.tmp 29) (.const (.bool false)), none, false, [], false⟩,
 ⟨some 31, .move (.tmp 30), none, false, [], false⟩,
 ⟨some 32, .fieldAddr 46 (.tmp 2) 4, some (some 31, true), false, [], false⟩,
 ⟨some 33, .load 3 (.tmp 32), some (some 31, true), false, [], false⟩,
 ⟨some 34, .fieldAddr 46 (.tmp 3) 4, some (some 31, true), false, [], false⟩,
 ⟨some 35, .load 3 (.tmp 34), some (some 31, true), false, [], false⟩,
 ⟨some 36, .binOp .eql 3 (.tmp 33) (.tmp 35) 3, some (some 31, true), false, [], false⟩,
 ⟨some 37, .pick (.tmp 31) (.tmp 36) (.const (.bool false)), none, false, [], false⟩,
 ⟨some 38, .move (.tmp 37), none, false, [], false⟩,
 ⟨some 39, .fieldAddr 46 (.tmp 2) 5, some (some 38, true), false, [], false⟩,
 ⟨some 40, .load 3 (.tmp 39), some (some 38, true), false, [], false⟩,
 ⟨some 41, .fieldAddr 46 (.tmp 3) 5, some (some 38, true), false, [], false⟩,
 ⟨some 42, .load 3 (.tmp 41), some (some 38, true), false, [], false⟩,
 ⟨some 43, .binOp .eql 3 (.tmp 40) (.tmp 42) 3, some (some 38, true), false, [], false⟩,
 ⟨some 44, .pick (.tmp 38) (.tmp 43) (.const (.bool false)), none, false, [], false⟩,
 ⟨some 45, .move (.tmp 44), none, false, [], false⟩,
 ⟨some 46, .fieldAddr 46 (.tmp 2) 6, some (some 45, true), false, [], false⟩,
 ⟨some 47, .load 9 (.tmp 46), some (some 45, true), false, [], false⟩,
 ⟨some 48, .fieldAddr 46 (.tmp 3) 6, some (some 45, true), false, [], false⟩,
 ⟨some 49, .load 9 (.tmp 48), some (some 45, true), false, [], false⟩,
 ⟨some 50, .binOp .eql 9 (.tmp 47) (.tmp 49) 9, some (some 45, true), false, [], false⟩,
 ⟨some 51, .pick (.tmp 45) (.tmp 50) (.const (.bool false)), none, false, [], false⟩,
 ⟨some 52, .move (.tmp 51), none, false, [], false⟩,
 ⟨some 53, .fieldAddr 46 (.tmp 2) 7, some (some 52, true), false, [], false⟩,
 ⟨some 54, .load 22 (.tmp 53), some (some 52, true), false, [], false⟩,
 ⟨some 55, .fieldAddr 46 (.tmp 3) 7, some (some 52, true), false, [], false⟩,
 ⟨some 56, .load 22 (.tmp 55), some (some 52, true), false, [], false⟩,
 ⟨some 57, .call ⟨.value (.func 61), #[.tmp 54, .tmp 56], #[22, 22]⟩, some (some 52, true), false, [], false⟩,
 ⟨some 58, .pick (.tmp 52) (.tmp 57) (.const (.bool false)), none, false, [], false⟩,
 ⟨some 4, .assign (.tmp 58), none, false, [], false⟩])
 .ret))
noncomputable def fi114 : FI := ⟨c114, 59, [.tmp 4], .plain⟩
noncomputable def c116 : XC :=
 (.seq
 (.reg false [
 ⟨some 4, .assign (.const (.int .i64 0)), none, false, [], false⟩])
 (.seq
 (.seq
 (.reg false [
 ⟨some 6, .move (.tmp 0), none, false, [], false⟩,
 ⟨some 7, .call ⟨.builtin .len, #[.tmp 6], #[33]⟩, none, false, [], false⟩,
 ⟨some 8, .move (.const (.int .i64 0)), none, false, [], false⟩])
 (.block 0
 (.loop
 (.seq
 (.reg false [
 ⟨some 9, .binOp .lss 3 (.tmp 8) (.tmp 7) 3, none, false, [], false⟩])
 (.seq
 (.cond (.tmp 9)
 .skip
 (.exit 0))
 (.seq
 (.block 1
 (.seq
 (.reg false [
 ⟨some 10, .move (.tmp 8), none, false, [], false⟩,
 ⟨some 5, .assign (.tmp 10), none, false, [], false⟩])
 (.seq
 (.reg false [
 ⟨some 11, .move (.tmp 1), none, false, [], false⟩,
 ⟨some 12, .move (.tmp 0), none, false, [], false⟩,
 ⟨some 13, .move (.tmp 5), none, false, [], false⟩,
 ⟨some 14, .indexAddr 33 (.tmp 12) (.tmp 13), none, false, [], false⟩,
 ⟨some 15, .load 25 (.tmp 14), none, false, [], false⟩,
 ⟨some 16, .call ⟨.value (.tmp 11), #[.tmp 15], #[25]⟩, none, false, [], false⟩])
 (.cond (.tmp 16)
 (.seq
 (.reg false [
 ⟨some 17, .move (.tmp 5), none, false, [], false⟩,
 ⟨some 4, .assign (.tmp 17), none, false, [], false⟩])
 .ret)
 .skip))))
 (.reg false [
 ⟨some 18, .binOp .add 3 (.tmp 8) (.const (.int .i64 1)) 3, none, false, [], false⟩,
 ⟨some 8, .move (.tmp 18), none, false, [], false⟩])))))))
 (.seq
 (.reg false [
 ⟨some 4, .assign (.const (.int .i64 (-1))), none, false, [], false⟩])
 .ret)))
noncomputable def fi116 : FI := ⟨c116, 19, [.tmp 4], .plain⟩
noncomputable def c118 : XC :=
 (.seq
 (.reg false [
 ⟨some 2, .assign (.const (.slice none 0 0)), none, false, [], false⟩])
 (.seq
 (.reg false [
 ⟨some 3, .assign (.const (.slice none 0 0)), none, false, [], false⟩])
 (.seq
 (.seq
 (.reg false [
 ⟨some 4, .assign (.const (.int .i64 0)), none, false, [], false⟩])
 (.block 0
 (.loop
 (.seq
 (.seq
 (.reg false [
 ⟨some 5, .move (.tmp 4), none, false, [], false⟩,
 ⟨some 6, .move (.tmp 0), none, false, [], false⟩,
 ⟨some 7, .call ⟨.builtin .len, #[.tmp 6], #[34]⟩, none, false, [], false⟩,
 ⟨some 8, .binOp .lss 3 (.tmp 5) (.tmp 7) 3, none, false, [], false⟩])
 (.cond (.tmp 8)
 .skip
 (.exit 0)))
 (.seq
 (.block 1
 (.reg false [
 ⟨some 11, .move (.tmp 3), none, false, [], false⟩,
 ⟨some 12, .move (.tmp 0), none, false, [], false⟩,
 ⟨some 13, .move (.tmp 4), none, false, [], false⟩,
 ⟨some 14, .indexAddr 34 (.tmp 12) (.tmp 13), none, false, [], false⟩,
 ⟨some 15, .load 105 (.tmp 14), none, false, [], false⟩,
 ⟨some 16, .buildSlice 34 1 #[(0, .tmp 15)], none, false, [], false⟩,
 ⟨some 17, .call ⟨.builtin .append, #[.tmp 11, .tmp 16], #[34, 34]⟩, none, false, [], false⟩,
 ⟨some 3, .assign (.tmp 17), none, false, [], false⟩]))
 (.reg false [
 ⟨some 9, .move (.tmp 4), none, false, [], false⟩,
 ⟨some 10, .binOp .add 3 (.tmp 9) (.const (.int .i64 1)) 3, none, false, [], false⟩,
 ⟨some 4, .assign (.tmp 10), none, false, [], false⟩]))))))
 (.seq
 (.reg false [
 ⟨some 18, .move (.tmp 3), none, false, [], false⟩,
 ⟨some 2, .assign (.tmp 18), none, false, [], false⟩])
 .ret))))
noncomputable def fi118 : FI := ⟨c118, 19, [.tmp 2], .plain⟩
noncomputable def c119 : XC :=
 (.seq
 (.reg false [
 ⟨some 2, .assign (.const (.slice none 0 0)), none, false, [], false⟩])
 (.seq
 (.reg false [
 ⟨some 3, .assign (.const (.slice none 0 0)), none, false, [], false⟩])
 (.seq
 (.seq
 (.reg false [
 ⟨some 4, .assign (.const (.int .i64 0)), none, false, [], false⟩])
 (.block 0
 (.loop
 (.seq
 (.seq
 (.reg false [
 ⟨some 5, .move (.tmp 4), none, false, [], false⟩,
 ⟨some 6, .move (.tmp 0), none, false, [], false⟩,
 ⟨some 7, .call ⟨.builtin .len, #[.tmp 6], #[33]⟩, none, false, [], false⟩,
 ⟨some 8, .binOp .lss 3 (.tmp 5) (.tmp 7) 3, none, false, [], false⟩])
 (.cond (.tmp 8)
 .skip
 (.exit 0)))
 (.seq
 (.block 1
 (.reg false [
 ⟨some 11, .move (.tmp 3), none, false, [], false⟩,
 ⟨some 12, .move (.tmp 0), none, false, [], false⟩,
 ⟨some 13, .move (.tmp 4), none, false, [], false⟩,
 ⟨some 14, .indexAddr 33 (.tmp 12) (.tmp 13), none, false, [], false⟩,
 ⟨some 15, .load 25 (.tmp 14), none, false, [], false⟩,
 ⟨some 16, .call ⟨.value (.func 56), #[.tmp 15], #[25]⟩, none, false, [], false⟩,
 ⟨some 17, .buildSlice 33 1 #[(0, .tmp 16)], none, false, [], false⟩,
 ⟨some 18, .call ⟨.builtin .append, #[.tmp 11, .tmp 17], #[33, 33]⟩, none, false, [], false⟩,
 ⟨some 3, .assign (.tmp 18), none, false, [], false⟩]))
 (.reg false [
 ⟨some 9, .move (.tmp 4), none, false, [], false⟩,
 ⟨some 10, .binOp .add 3 (.tmp 9) (.const (.int .i64 1)) 3, none, false, [], false⟩,
 ⟨some 4, .assign (.tmp 10), none, false, [], false⟩]))))))
 (.seq
 (.reg false [
 ⟨some 19, .move (.tmp 3), none, false, [], false⟩,
 ⟨some 2, .assign (.tmp 19), none, false, [], false⟩])
 .ret))))
noncomputable def fi119 : FI := ⟨c119, 20, [.tmp 2], .plain⟩
noncomputable def c128 : XC :=
 (.seq
 (.reg false [
 ⟨some 4, .load 23 (.tmp 1), none, false, [], false⟩,
 ⟨some 5, .call ⟨.builtin .len, #[.tmp 4], #[23]⟩, none, false, [], false⟩,
 ⟨some 6, .binOp .sub 3 (.tmp 5) (.const (.int .i64 1)) 3, none, false, [], false⟩,
 ⟨some 3, .assign (.tmp 6), none, false, [], false⟩])
 (.block 0
 (.loop
 (.seq
 (.seq
 (.reg false [
 ⟨some 7, .move (.tmp 3), none, false, [], false⟩,
 ⟨some 8, .binOp .geq 3 (.tmp 7) (.const (.int .i64 0)) 3, none, false, [], false⟩])
 (.cond (.tmp 8)
 .skip
 (.exit 0)))
 (.seq
 (.block 1
 (.seq
 (.reg false [
 ⟨some 11, .move (.tmp 0), none, false, [], false⟩,
 ⟨some 12, .move (.tmp 3), none, false, [], false⟩,
 ⟨some 13, .load 23 (.tmp 1), none, false, [], false⟩,
 ⟨some 14, .move (.tmp 3), none, false, [], false⟩,
 ⟨some 15, .indexAddr 23 (.tmp 13) (.tmp 14), none, false, [], false⟩,
 ⟨some 16, .load 49 (.tmp 15), none, false, [], false⟩,
 ⟨some 17, .call ⟨.value (.tmp 11), #[.tmp 12, .tmp 16], #[3, 49]⟩, none, false, [], false⟩,
 ⟨some 18, .unOp .not 4 (.tmp 17), none, false, [], false⟩])
 (.cond (.tmp 18)
 .ret
 .skip)))
 (.reg false [
 ⟨some 9, .move (.tmp 3), none, false, [], false⟩,
 ⟨some 10, .binOp .sub 3 (.tmp 9) (.const (.int .i64 1)) 3, none, false, [], false⟩,
 ⟨some 3, .assign (.tmp 10), none, false, [], false⟩]))))))
noncomputable def fi128 : FI := ⟨c128, 19, [], .itf (.seq (.reg (.reg false [
 ⟨some 4, .load 23 (.tmp 1), none, false, [], false⟩,
 ⟨some 5, .call ⟨.builtin .len, #[.tmp 4], #[23]⟩, none, false, [], false⟩,
 ⟨some 6, .binOp .sub 3 (.tmp 5) (.const (.int .i64 1)) 3, none, false, [], false⟩,
 ⟨some 3, .assign (.tmp 6), none, false, [], false⟩])) (.block 0 (.loop (.seq (.seq (.reg (.reg false [
 ⟨some 7, .move (.tmp 3), none, false, [], false⟩,
 ⟨some 8, .binOp .geq 3 (.tmp 7) (.const (.int .i64 0)) 3, none, false, [], false⟩])) (.cond (.tmp 8) .skip (.exit 0))) (.seq (.block 1 (.seq (.yreg (.reg false [
 ]) (none) 11 (.reg false [
 ⟨some 12, .move (.tmp 3), none, false, [], false⟩,
 ⟨some 13, .load 23 (.tmp 1), none, false, [], false⟩,
 ⟨some 14, .move (.tmp 3), none, false, [], false⟩,
 ⟨some 15, .indexAddr 23 (.tmp 13) (.tmp 14), none, false, [], false⟩,
 ⟨some 16, .load 49 (.tmp 15), none, false, [], false⟩]) 17 [.tmp 12, .tmp 16] (.reg false [
 ⟨some 18, .unOp .not 4 (.tmp 17), none, false, [], false⟩])) (.cond (.tmp 18) .ret .skip))) (.reg (.reg false [
 ⟨some 9, .move (.tmp 3), none, false, [], false⟩,
 ⟨some 10, .binOp .sub 3 (.tmp 9) (.const (.int .i64 1)) 3, none, false, [], false⟩,
 ⟨some 3, .assign (.tmp 10), none, false, [], false⟩])))))))⟩
noncomputable def c129 : XC :=
 (.seq
 (.reg false [
 ⟨some 2, .assign (.const (.slice none 0 0)), none, false, [], false⟩])
 (.seq
 (.seq
 (.reg false [
 ⟨some 3, .move (.tmp 0), none, false, [], false⟩,
 ⟨some 4, .binOp .eql 56 (.tmp 3) (.const (.slice none 0 0)) 56, none, false, [], false⟩])
 (.cond (.tmp 4)
 (.seq
 (.reg false [
 ⟨some 2, .assign (.const (.slice none 0 0)), none, false, [], false⟩])
 .ret)
 .skip))
 (.seq
 (.reg false [
 ⟨some 5, .buildSlice 56 0 #[], none, false, [], false⟩,
 ⟨some 6, .move (.tmp 0), none, false, [], false⟩,
 ⟨some 7, .call ⟨.builtin .append, #[.tmp 5, .tmp 6], #[56, 56]⟩, none, false, [], false⟩,
 ⟨some 2, .assign (.tmp 7), none, false, [], false⟩])
 .ret)))
noncomputable def fi129 : FI := ⟨c129, 8, [.tmp 2], .plain⟩
noncomputable def c130 : XC :=
 (.seq
 (.reg false [
 ⟨some 1, .box 47 (.tmp 0), none, false, [], false⟩,
 ⟨some 2, .assign (.const .nilFunc), none, false, [], false⟩])
 (.seq
 (.reg false [
 ⟨some 3, .makeFunc (.func 171) #[] #[.tmp 1], none, false, [], false⟩,
 ⟨some 2, .assign (.tmp 3), none, false, [], false⟩])
 .ret))
noncomputable def fi130 : FI := ⟨c130, 4, [.tmp 2], .plain⟩
noncomputable def c131 : XC :=
 (.seq
 (.reg false [
 ⟨some 1, .box 46 (.tmp 0), none, false, [], false⟩,
 ⟨some 2, .assign (.const (.slice none 0 0)), none, false, [], false⟩])
 (.seq
 (.seq
 (.reg false [
 ⟨some 3, .fieldAddr 46 (.tmp 1) 0, none, false, [], false⟩,
 ⟨some 4, .load 3 (.tmp 3), none, false, [], false⟩])
 (.block 0
 (.seq
 (.seq
 (.reg false [
 ⟨some 6, .binOp .eql 3 (.tmp 4) (.const (.int .i64 2)) 3, none, false, [], false⟩,
 ⟨some 5, .assign (.tmp 6), none, false, [], false⟩])
 (.cond (.tmp 5)
 .skip
 (.seq
 (.reg false [
 ⟨some 7, .binOp .eql 3 (.tmp 4) (.const (.int .i64 4)) 3, none, false, [], false⟩,
 ⟨some 5, .assign (.tmp 7), none, false, [], false⟩])
 (.cond (.tmp 5)
 .skip
 (.seq
 (.reg false [
 ⟨some 8, .binOp .eql 3 (.tmp 4) (.const (.int .i64 5)) 3, none, false, [], false⟩,
 ⟨some 5, .assign (.tmp 8), none, false, [], false⟩])
 (.cond (.tmp 5)
 .skip
 (.seq
 (.reg false [
 ⟨some 9, .binOp .eql 3 (.tmp 4) (.const (.int .i64 8)) 3, none, false, [], false⟩,
 ⟨some 5, .assign (.tmp 9), none, false, [], false⟩])
 (.cond (.tmp 5)
 .skip
 (.reg false [
 ⟨some 10, .binOp .eql 3 (.tmp 4) (.const (.int .i64 11)) 3, none, false, [], false⟩,
 ⟨some 5, .assign (.tmp 10), none, false, [], false⟩])))))))))
 (.cond (.tmp 5)
 (.seq
 (.reg false [
 ⟨some 11, .fieldAddr 46 (.tmp 1) 3, none, false, [], false⟩,
 ⟨some 12, .load 3 (.tmp 11), none, false, [], false⟩,
 ⟨some 13, .buildSlice 22 1 #[(0, .tmp 12)], none, false, [], false⟩,
 ⟨some 2, .assign (.tmp 13), none, false, [], false⟩])
 .ret)
 (.seq
 (.seq
 (.reg false [
 ⟨some 15, .binOp .eql 3 (.tmp 4) (.const (.int .i64 3)) 3, none, false, [], false⟩,
 ⟨some 14, .assign (.tmp 15), none, false, [], false⟩])
 (.cond (.tmp 14)
 .skip
 (.reg false [
 ⟨some 16, .binOp .eql 3 (.tmp 4) (.const (.int .i64 6)) 3, none, false, [], false⟩,
 ⟨some 14, .assign (.tmp 16), none, false, [], false⟩])))
 (.cond (.tmp 14)
 (.seq
 (.reg false [
 ⟨some 17, .fieldAddr 46 (.tmp 1) 3, none, false, [], false⟩,
 ⟨some 18, .load 3 (.tmp 17), none, false, [], false⟩,
 ⟨some 19, .fieldAddr 46 (.tmp 1) 4, none, false, [], false⟩,
 ⟨some 20, .load 3 (.tmp 19), none, false, [], false⟩,
 ⟨some 21, .buildSlice 22 2 #[(0, .tmp 18), (1, .tmp 20)], none, false, [], false⟩,
 ⟨some 2, .assign (.tmp 21), none, false, [], false⟩])
 .ret)
 (.seq
 (.reg false [
 ⟨some 23, .binOp .eql 3 (.tmp 4) (.const (.int .i64 9)) 3, none, false, [], false⟩,
 ⟨some 22, .assign (.tmp 23), none, false, [], false⟩])
 (.cond (.tmp 22)
 (.seq
 (.reg false [
 ⟨some 24, .fieldAddr 46 (.tmp 1) 7, none, false, [], false⟩,
 ⟨some 25, .load 22 (.tmp 24), none, false, [], false⟩,
 ⟨some 26, .call ⟨.value (.func 51), #[.tmp 25], #[22]⟩, none, false, [], false⟩,
 ⟨some 2, .assign (.tmp 26), none, false, [], false⟩])
 .ret)
 .skip))))))))
 (.seq
 (.reg false [
 ⟨some 2, .assign (.const (.slice none 0 0)), none, false, [], false⟩])
 .ret)))
noncomputable def fi131 : FI := ⟨c131, 27, [.tmp 2], .plain⟩
noncomputable def c132 : XC :=
 (.seq
 (.reg false [
 ⟨some 3, .box 25 (.tmp 0), none, false, [], false⟩,
 ⟨some 6, .assign (.const (.bool false)), none, false, [], false⟩])
 (.seq
 (.reg false [
 ⟨some 7, .load 25 (.tmp 3), none, false, [], false⟩,
 ⟨some 8, .move (.tmp 1), none, false, [], false⟩,
 ⟨some 9, .move (.tmp 2), none, false, [], false⟩,
 ⟨some 10, .call ⟨.value (.func 172), #[.tmp 7, .tmp 8, .const (.int .i64 0), .tmp 9], #[25, 3, 3, 3]⟩, none, false, [], false⟩,
 ⟨some 6, .assign (.tmp 10), none, false, [], false⟩])
 .ret))
noncomputable def fi132 : FI := ⟨c132, 11, [.tmp 6], .plain⟩
noncomputable def c133 : XC :=
 (.seq
 (.reg false [
 ⟨some 3, .box 25 (.tmp 0), none, false, [], false⟩,
 ⟨some 6, .assign (.const (.bool false)), none, false, [], false⟩])
 (.seq
 (.reg false [
 ⟨some 9, .fieldAddr 25 (.tmp 3) 4, none, false, [], false⟩,
 ⟨some 10, .load 23 (.tmp 9), none, false, [], false⟩,
 ⟨some 11, .move (.tmp 1), none, false, [], false⟩,
 ⟨some 12, .indexAddr 23 (.tmp 10) (.tmp 11), none, false, [], false⟩,
 ⟨some 13, .fieldAddr 49 (.tmp 12) 1, none, false, [], false⟩,
 ⟨some 14, .load 29 (.tmp 13), none, false, [], false⟩,
 ⟨some 15, .call ⟨.value (.func 173), #[.tmp 14], #[29]⟩, none, false, [], false⟩,
 ⟨some 7, .assign (.tmp 15), none, false, [], false⟩])
 (.seq
 (.seq
 (.reg false [
 ⟨some 8, .assign (.const (.int .i64 0)), none, false, [], false⟩])
 (.block 0
 (.loop
 (.seq
 (.seq
 (.reg false [
 ⟨some 16, .move (.tmp 8), none, false, [], false⟩,
 ⟨some 17, .move (.tmp 7), none, false, [], false⟩,
 ⟨some 18, .call ⟨.builtin .len, #[.tmp 17], #[22]⟩, none, false, [], false⟩,
 ⟨some 19, .binOp .lss 3 (.tmp 16) (.tmp 18) 3, none, false, [], false⟩])
 (.cond (.tmp 19)
 .skip
 (.exit 0)))
 (.seq
 (.block 1
 (.seq
 (.reg true [
 ⟨some 22, .load 25 (.tmp 3), none, false, [], false⟩,
 ⟨some 23, .move (.tmp 7), none, false, [], false⟩,
 ⟨some 24, .move (.tmp 8), none, false, [], false⟩,
 ⟨some 25, .indexAddr 22 (.tmp 23) (.tmp 24), none, false, [], false⟩,
 ⟨some 26, .load 3 (.tmp 25), none, false, [], false⟩,
 ⟨some 27, .move (.tmp 2), none, false, [], false⟩,
 ⟨some 28, .call ⟨.value (.func 132), #[.tmp 22, .tmp 26, .tmp 27], #[25, 3, 3]⟩, none, false, [], false⟩])
 (.cond (.tmp 28)
 (.seq
 (.reg false [
 ⟨some 6, .assign (.const (.bool true)), none, false, [], false⟩])
 .ret)
 .skip)))
 (.reg false [
 ⟨some 20, .move (.tmp 8), none, false, [], false⟩,
 ⟨some 21, .binOp .add 3 (.tmp 20) (.const (.int .i64 1)) 3, none, false, [], false⟩,
 ⟨some 8, .assign (.tmp 21), none, false, [], false⟩]))))))
 (.seq
 (.reg false [
 ⟨some 6, .assign (.const (.bool false)), none, false, [], false⟩])
 .ret))))
noncomputable def fi133 : FI := ⟨c133, 29, [.tmp 6], .plain⟩
noncomputable def c134 : XC :=
 (.seq
 (.reg false [
 ⟨some 3, .box 25 (.tmp 0), none, false, [], false⟩,
 ⟨some 6, .assign (.const (.bool false)), none, false, [], false⟩])
 (.seq
 (.seq
 (.reg false [
 ⟨some 7, .assign (.const (.int .i64 0)), none, false, [], false⟩])
 (.block 0
 (.loop
 (.seq
 (.seq
 (.reg false [
 ⟨some 10, .move (.tmp 7), none, false, [], false⟩,
 ⟨some 11, .fieldAddr 25 (.tmp 3) 4, none, false, [], false⟩,
 ⟨some 12, .load 23 (.tmp 11), none, false, [], false⟩,
 ⟨some 13, .call ⟨.builtin .len, #[.tmp 12], #[23]⟩, none, false, [], false⟩,
 ⟨some 14, .binOp .lss 3 (.tmp 10) (.tmp 13) 3, none, false, [], false⟩])
 (.cond (.tmp 14)
 .skip
 (.exit 0)))
 (.seq
 (.block 1
 (.seq
 (.reg false [
 ⟨some 17, .fieldAddr 25 (.tmp 3) 4, none, false, [], false⟩,
 ⟨some 18, .load 23 (.tmp 17), none, false, [], false⟩,
 ⟨some 19, .move (.tmp 7), none, false, [], false⟩,
 ⟨some 20, .indexAddr 23 (.tmp 18) (.tmp 19), none, false, [], false⟩,
 ⟨some 21, .fieldAddr 49 (.tmp 20) 0, none, false, [], false⟩,
 ⟨some 22, .load 47 (.tmp 21), none, false, [], false⟩,
 ⟨some 8, .assign (.tmp 22), none, false, [], false⟩])
 (.seq
 (.reg false [
 ⟨some 9, .assign (.const (.int .i64 0)), none, false, [], false⟩])
 (.block 2
 (.loop
 (.seq
 (.seq
 (.reg false [
 ⟨some 23, .move (.tmp 9), none, false, [], false⟩,
 ⟨some 24, .move (.tmp 8), none, false, [], false⟩,
 ⟨some 25, .call ⟨.builtin .len, #[.tmp 24], #[47]⟩, none, false, [], false⟩,
 ⟨some 26, .binOp .lss 3 (.tmp 23) (.tmp 25) 3, none, false, [], false⟩])
 (.cond (.tmp 26)
 .skip
 (.exit 2)))
 (.seq
 (.block 3
 (.seq
 (.seq
 (.reg false [
 ⟨some 29, .move (.tmp 8), none, false, [], false⟩,
 ⟨some 30, .move (.tmp 9), none, false, [], false⟩,
 ⟨some 31, .indexAddr 47 (.tmp 29) (.tmp 30), none, false, [], false⟩,
 ⟨some 32, .load 46 (.tmp 31), none, false, [], false⟩,
 ⟨some 33, .call ⟨.value (.func 174), #[.tmp 32], #[46]⟩, none, false, [], false⟩,
 ⟨some 34, .move (.tmp 1), none, false, [], false⟩,
 ⟨some 35, .binOp .neq 3 (.tmp 33) (.tmp 34) 3, none, false, [], false⟩,
 ⟨some 36, .move (.tmp 35), none, false, [], false⟩,
 ⟨some 37, .move (.tmp 8), some (some 36, false), false, [], false⟩,
 ⟨some 38, .move (.tmp 9), some (some 36, false), false, [], false⟩,
 ⟨some 39, .indexAddr 47 (.tmp 37) (.tmp 38), some (some 36, false), false, [], false⟩,
 ⟨some 40, .fieldAddr 46 (.tmp 39) 0, some (some 36, false), false, [], false⟩,
 ⟨some 41, .load 3 (.tmp 40), some (some 36, false), false, [], false⟩,
 ⟨some 42, .binOp .eql 3 (.tmp 41) (.const (.int .i64 2)) 3, some (some 36, false), false, [], false⟩,
 ⟨some 43, .move (.tmp 42), some (some 36, false), false, [], false⟩,
 ⟨some 44, .move (.tmp 8), some (some 43, true), false, [], false⟩,
 ⟨some 45, .move (.tmp 9), some (some 43, true), false, [], false⟩,
 ⟨some 46, .indexAddr 47 (.tmp 44) (.tmp 45), some (some 43, true), false, [], false⟩,
 ⟨some 47, .fieldAddr 46 (.tmp 46) 3, some (some 43, true), false, [], false⟩,
 ⟨some 48, .load 3 (.tmp 47), some (some 43, true), false, [], false⟩,
 ⟨some 49, .move (.tmp 2), some (some 43, true), false, [], false⟩,
 ⟨some 50, .binOp .eql 3 (.tmp 48) (.tmp 49) 3, some (some 43, true), false, [], false⟩,
 ⟨some 51, .pick (.tmp 43) (.tmp 50) (.const (.bool false)), some (some 36, false), false, [], false⟩,
 ⟨some 52, .pick (.tmp 36) (.const (.bool true)) (.tmp 51), none, false, [], false⟩])
 (.cond (.tmp 52)
 (.exit 3)
 .skip))
 (.seq
 (.reg false [
 ⟨some 53, .load 25 (.tmp 3), none, false, [], false⟩,
 ⟨some 54, .move (.tmp 7), none, false, [], false⟩,
 ⟨some 55, .move (.tmp 9), none, false, [], false⟩,
 ⟨some 56, .binOp .add 3 (.tmp 55) (.const (.int .i64 1)) 3, none, false, [], false⟩,
 ⟨some 57, .move (.tmp 2), none, false, [], false⟩,
 ⟨some 58, .call ⟨.value (.func 172), #[.tmp 53, .tmp 54, .tmp 56, .tmp 57], #[25, 3, 3, 3]⟩, none, false, [], false⟩])
 (.cond (.tmp 58)
 (.seq
 (.reg false [
 ⟨some 6, .assign (.const (.bool true)), none, false, [], false⟩])
 .ret)
 .skip))))
 (.reg false [
 ⟨some 27, .move (.tmp 9), none, false, [], false⟩,
 ⟨some 28, .binOp .add 3 (.tmp 27) (.const (.int .i64 1)) 3, none, false, [], false⟩,
 ⟨some 9, .assign (.tmp 28), none, false, [], false⟩]))))))))
 (.reg false [
 ⟨some 15, .move (.tmp 7), none, false, [], false⟩,
 ⟨some 16, .binOp .add 3 (.tmp 15) (.const (.int .i64 1)) 3, none, false, [], false⟩,
 ⟨some 7, .assign (.tmp 16), none, false, [], false⟩]))))))
 (.seq
 (.reg false [
 ⟨some 6, .assign (.const (.bool false)), none, false, [], false⟩])
 .ret)))
noncomputable def fi134 : FI := ⟨c134, 59, [.tmp 6], .plain⟩
noncomputable def c135 : XC :=
 (.seq
 (.reg false [
 ⟨some 2, .assign (.const (.bool false)), none, false, [], false⟩])
 (.seq
 (.reg false [
 ⟨some 3, .move (.tmp 0), none, false, [], false⟩,
 ⟨some 4, .binOp .rem 3 (.tmp 3) (.const (.int .i64 2)) 3, none, false, [], false⟩,
 ⟨some 5, .binOp .eql 3 (.tmp 4) (.const (.int .i64 0)) 3, none, false, [], false⟩,
 ⟨some 2, .assign (.tmp 5), none, false, [], false⟩])
 .ret))
noncomputable def fi135 : FI := ⟨c135, 6, [.tmp 2], .plain⟩
noncomputable def c136 : XC :=
 (.seq
 (.reg false [
 ⟨some 4, .assign (.const (.bool false)), none, false, [], false⟩])
 (.seq
 (.reg false [
 ⟨some 5, .move (.tmp 0), none, false, [], false⟩,
 ⟨some 6, .move (.tmp 1), none, false, [], false⟩,
 ⟨some 7, .call ⟨.value (.func 175), #[.tmp 5, .tmp 6], #[22, 99]⟩, none, false, [], false⟩,
 ⟨some 8, .binOp .geq 3 (.tmp 7) (.const (.int .i64 0)) 3, none, false, [], false⟩,
 ⟨some 4, .assign (.tmp 8), none, false, [], false⟩])
 .ret))
noncomputable def fi136 : FI := ⟨c136, 9, [.tmp 4], .plain⟩
noncomputable def c137 : XC :=
 (.seq
 (.reg false [
 ⟨some 2, .assign (.const (.bool false)), none, false, [], false⟩])
 (.seq
 (.reg false [
 ⟨some 3, .move (.tmp 0), none, false, [], false⟩,
 ⟨some 4, .call ⟨.value (.func 86), #[.tmp 3], #[3]⟩, none, false, [], false⟩,
 ⟨some 5, .unOp .not 4 (.tmp 4), none, false, [], false⟩,
 ⟨some 2, .assign (.tmp 5), none, false, [], false⟩])
 .ret))
noncomputable def fi137 : FI := ⟨c137, 6, [.tmp 2], .plain⟩
noncomputable def c138 : XC :=
 (.seq
 (.reg false [
 ⟨some 2, .box 107 (.tmp 0), none, false, [], false⟩,
 ⟨some 3, .box 46 (.tmp 1), none, false, [], false⟩,
 ⟨some 4, .assign (.const (.int .i64 0)), none, false, [], false⟩])
 (.seq
 (.block 0
 (.seq
 (.reg false [
 ⟨some 6, .load 46 (.tmp 3), none, false, [], false⟩,
 ⟨some 7, .call ⟨.value (.func 176), #[.tmp 6], #[46]⟩, none, false, [], false⟩,
 ⟨some 8, .unOp .not 4 (.tmp 7), none, false, [], false⟩,
 ⟨some 5, .assign (.tmp 8), none, false, [], false⟩])
 (.cond (.tmp 5)
 (.seq
 (.reg false [
 ⟨some 4, .assign (.const (.int .i64 2)), none, false, [], false⟩])
 .ret)
 (.seq
 (.reg false [
 ⟨some 10, .load 107 (.tmp 2), none, false, [], false⟩,
 ⟨some 11, .load 46 (.tmp 3), none, false, [], false⟩,
 ⟨some 12, .call ⟨.value (.func 177), #[.tmp 10, .tmp 11], #[107, 46]⟩, none, false, [], false⟩,
 ⟨some 13, .unOp .not 4 (.tmp 12), none, false, [], false⟩,
 ⟨some 9, .assign (.tmp 13), none, false, [], false⟩])
 (.cond (.tmp 9)
 (.seq
 (.reg false [
 ⟨some 4, .assign (.const (.int .i64 11)), none, false, [], false⟩])
 .ret)
 (.seq
 (.reg true [
 ⟨some 15, .fieldAddr 46 (.tmp 3) 0, none, false, [], false⟩,
 ⟨some 16, .load 3 (.tmp 15), none, false, [], false⟩,
 ⟨some 17, .binOp .eql 3 (.tmp 16) (.const (.int .i64 9)) 3, none, false, [], false⟩,
 ⟨some 18, .move (.tmp 17), none, false, [], false⟩,
 ⟨some 19, .fieldAddr 46 (.tmp 3) 7, some (some 18, true), false, [], false⟩,
 ⟨some 20, .load 22 (.tmp 19), some (some 18, true), false, [], false⟩,
 ⟨some 21, .call ⟨.builtin .len, #[.tmp 20], #[22]⟩, some (some 18, true), false, [], false⟩,
 ⟨some 22, .fieldAddr 107 (.tmp 2) 0, some (some 18, true), false, [], false⟩,
 ⟨some 23, .fieldAddr 36 (.tmp 22) 1, some (some 18, true), false, [], false⟩,
 ⟨some 24, .load 33 (.tmp 23), some (some 18, true), false, [], false⟩,
 ⟨some 25, .fieldAddr 46 (.tmp 3) 5, some (some 18, true), false, [], false⟩,
 ⟨some 26, .load 3 (.tmp 25), some (some 18, true), false, [], false⟩,
 ⟨some 27, .indexAddr 33 (.tmp 24) (.tmp 26), some (some 18, true), false, [], false⟩,
 ⟨some 28, .fieldAddr 25 (.tmp 27) 2, some (some 18, true), false, [], false⟩,
 ⟨some 29, .load 3 (.tmp 28), some (some 18, true), false, [], false⟩,
 ⟨some 30, .binOp .neq 3 (.tmp 21) (.tmp 29) 3, some (some 18, true), false, [], false⟩,
 ⟨some 31, .pick (.tmp 18) (.tmp 30) (.const (.bool false)), none, false, [], false⟩,
 ⟨some 14, .assign (.tmp 31), none, false, [], false⟩])
 (.cond (.tmp 14)
 (.seq
 (.reg false [
 ⟨some 4, .assign (.const (.int .i64 7)), none, false, [], false⟩])
 .ret)
 (.seq
 (.reg false [
 ⟨some 33, .load 107 (.tmp 2), none, false, [], false⟩,
 ⟨some 34, .load 46 (.tmp 3), none, false, [], false⟩,
 ⟨some 35, .call ⟨.value (.func 178), #[.tmp 33, .tmp 34], #[107, 46]⟩, none, false, [], false⟩,
 ⟨some 36, .unOp .not 4 (.tmp 35), none, false, [], false⟩,
 ⟨some 32, .assign (.tmp 36), none, false, [], false⟩])
 (.cond (.tmp 32)
 (.seq
 (.reg false [
 ⟨some 4, .assign (.const (.int .i64 6)), none, false, [], false⟩])
 .ret)
 .skip)))))))))
 (.seq
 (.reg false [
 ⟨some 4, .assign (.const (.int .i64 0)), none, false, [], false⟩])
 .ret)))
noncomputable def fi138 : FI := ⟨c138, 37, [.tmp 4], .plain⟩
noncomputable def c139 : XC :=
 (.seq
 (.reg false [
 ⟨some 2, .box 107 (.tmp 0), none, false, [], false⟩,
 ⟨some 3, .box 29 (.tmp 1), none, false, [], false⟩,
 ⟨some 4, .assign (.const (.int .i64 0)), none, false, [], false⟩])
 (.seq
 (.reg true [
 ⟨some 9, .fieldAddr 107 (.tmp 2) 1, none, false, [], false⟩,
 ⟨some 10, .fieldAddr 25 (.tmp 9) 4, none, false, [], false⟩,
 ⟨some 11, .load 23 (.tmp 10), none, false, [], false⟩,
 ⟨some 12, .call ⟨.builtin .len, #[.tmp 11], #[23]⟩, none, false, [], false⟩,
 ⟨some 13, .fieldAddr 107 (.tmp 2) 1, none, false, [], false⟩,
 ⟨some 14, .fieldAddr 25 (.tmp 13) 3, none, false, [], false⟩,
 ⟨some 15, .load 22 (.tmp 14), none, false, [], false⟩,
 ⟨some 16, .call ⟨.builtin .len, #[.tmp 15], #[22]⟩, none, false, [], false⟩,
 ⟨some 5, .assign (.tmp 12), none, false, [], false⟩,
 ⟨some 6, .assign (.tmp 16), none, false, [], false⟩])
 (.seq
 (.reg false [
 ⟨some 7, .assign (.const (.bool true)), none, false, [], false⟩,
 ⟨some 8, .assign (.const (.bool true)), none, false, [], false⟩])
 (.seq
 (.seq
 (.reg false [
 ⟨some 17, .fieldAddr 29 (.tmp 3) 0, none, false, [], false⟩,
 ⟨some 18, .load 3 (.tmp 17), none, false, [], false⟩])
 (.block 0
 (.seq
 (.reg false [
 ⟨some 20, .binOp .eql 3 (.tmp 18) (.const (.int .i64 1)) 3, none, false, [], false⟩,
 ⟨some 19, .assign (.tmp 20), none, false, [], false⟩])
 (.cond (.tmp 19)
 (.reg false [
 ⟨some 21, .fieldAddr 29 (.tmp 3) 2, none, false, [], false⟩,
 ⟨some 22, .load 3 (.tmp 21), none, false, [], false⟩,
 ⟨some 23, .move (.tmp 5), none, false, [], false⟩,
 ⟨some 24, .call ⟨.value (.func 179), #[.tmp 22, .tmp 23], #[3, 3]⟩, none, false, [], false⟩,
 ⟨some 7, .assign (.tmp 24), none, false, [], false⟩])
 (.seq
 (.reg false [
 ⟨some 26, .binOp .eql 3 (.tmp 18) (.const (.int .i64 2)) 3, none, false, [], false⟩,
 ⟨some 25, .assign (.tmp 26), none, false, [], false⟩])
 (.cond (.tmp 25)
 (.seq
 (.reg false [
 ⟨some 27, .fieldAddr 29 (.tmp 3) 2, none, false, [], false⟩,
 ⟨some 28, .load 3 (.tmp 27), none, false, [], false⟩,
 ⟨some 29, .move (.tmp 5), none, false, [], false⟩,
 ⟨some 30, .call ⟨.value (.func 179), #[.tmp 28, .tmp 29], #[3, 3]⟩, none, false, [], false⟩,
 ⟨some 31, .move (.tmp 30), none, false, [], false⟩,
 ⟨some 32, .fieldAddr 29 (.tmp 3) 3, some (some 31, true), false, [], false⟩,
 ⟨some 33, .load 3 (.tmp 32), some (some 31, true), false, [], false⟩,
 ⟨some 34, .move (.tmp 5), some (some 31, true), false, [], false⟩,
 ⟨some 35, .call ⟨.value (.func 179), #[.tmp 33, .tmp 34], #[3, 3]⟩, some (some 31, true), false, [], false⟩,
 ⟨some 36, .pick (.tmp 31) (.tmp 35) (.const (.bool false)), none, false, [], false⟩,
 ⟨some 37, .move (.tmp 36), none, false, [], false⟩,
 ⟨some 38, .fieldAddr 29 (.tmp 3) 1, some (some 37, true), false, [], false⟩,
 ⟨some 39, .load 3 (.tmp 38), some (some 37, true), false, [], false⟩,
 ⟨some 40, .move (.tmp 6), some (some 37, true), false, [], false⟩,
 ⟨some 41, .call ⟨.value (.func 179), #[.tmp 39, .tmp 40], #[3, 3]⟩, some (some 37, true), false, [], false⟩,
 ⟨some 42, .pick (.tmp 37) (.tmp 41) (.const (.bool false)), none, false, [], false⟩,
 ⟨some 7, .assign (.tmp 42), none, false, [], false⟩])
 (.reg false [
 ⟨some 43, .move (.tmp 7), none, false, [], false⟩,
 ⟨some 44, .move (.tmp 43), none, false, [], false⟩,
 ⟨some 45, .fieldAddr 107 (.tmp 2) 1, some (some 44, true), false, [], false⟩,
 ⟨some 46, .fieldAddr 25 (.tmp 45) 3, some (some 44, true), false, [], false⟩,
 ⟨some 47, .load 22 (.tmp 46), some (some 44, true), false, [], false⟩,
 ⟨some 48, .fieldAddr 29 (.tmp 3) 1, some (some 44, true), false, [], false⟩,
 ⟨some 49, .load 3 (.tmp 48), some (some 44, true), false, [], false⟩,
 ⟨some 50, .indexAddr 22 (.tmp 47) (.tmp 49), some (some 44, true), false, [], false⟩,
 ⟨some 51, .load 3 (.tmp 50), some (some 44, true), false, [], false⟩,
 ⟨some 52, .binOp .eql 3 (.tmp 51) (.const (.int .i64 1)) 3, some (some 44, true), false, [], false⟩,
 ⟨some 53, .pick (.tmp 44) (.tmp 52) (.const (.bool false)), none, false, [], false⟩,
 ⟨some 8, .assign (.tmp 53), none, false, [], false⟩]))
 (.seq
 (.reg false [
 ⟨some 55, .binOp .eql 3 (.tmp 18) (.const (.int .i64 3)) 3, none, false, [], false⟩,
 ⟨some 54, .assign (.tmp 55), none, false, [], false⟩])
 (.cond (.tmp 54)
 (.seq
 (.reg false [
 ⟨some 56, .fieldAddr 29 (.tmp 3) 1, none, false, [], false⟩,
 ⟨some 57, .load 3 (.tmp 56), none, false, [], false⟩,
 ⟨some 58, .binOp .lss 3 (.tmp 57) (.const (.int .i64 0)) 3, none, false, [], false⟩,
 ⟨some 59, .move (.tmp 58), none, false, [], false⟩,
 ⟨some 60, .fieldAddr 29 (.tmp 3) 1, some (some 59, false), false, [], false⟩,
 ⟨some 61, .load 3 (.tmp 60), some (some 59, false), false, [], false⟩,
 ⟨some 62, .move (.tmp 6), some (some 59, false), false, [], false⟩,
 ⟨some 63, .call ⟨.value (.func 179), #[.tmp 61, .tmp 62], #[3, 3]⟩, some (some 59, false), false, [], false⟩,
 ⟨some 64, .pick (.tmp 59) (.const (.bool true)) (.tmp 63), none, false, [], false⟩,
 ⟨some 7, .assign (.tmp 64), none, false, [], false⟩])
 (.reg true [
 ⟨some 65, .move (.tmp 7), none, false, [], false⟩,
 ⟨some 66, .move (.tmp 65), none, false, [], false⟩,
 ⟨some 67, .fieldAddr 29 (.tmp 3) 1, some (some 66, true), false, [], false⟩,
 ⟨some 68, .load 3 (.tmp 67), some (some 66, true), false, [], false⟩,
 ⟨some 69, .binOp .lss 3 (.tmp 68) (.const (.int .i64 0)) 3, some (some 66, true), false, [], false⟩,
 ⟨some 70, .fieldAddr 107 (.tmp 2) 1, some (some 66, true), false, [], false⟩,
 ⟨some 71, .fieldAddr 25 (.tmp 70) 1, some (some 66, true), false, [], false⟩,
 ⟨some 72, .load 3 (.tmp 71), some (some 66, true), false, [], false⟩,
 ⟨some 73, .binOp .eql 3 (.tmp 72) (.const (.int .i64 0)) 3, some (some 66, true), false, [], false⟩,
 ⟨some 74, .binOp .eql 4 (.tmp 69) (.tmp 73) 4, some (some 66, true), false, [], false⟩,
 ⟨some 75, .pick (.tmp 66) (.tmp 74) (.const (.bool false)), none, false, [], false⟩,
 ⟨some 76, .move (.tmp 75), none, false, [], false⟩,
 ⟨some 77, .fieldAddr 29 (.tmp 3) 1, some (some 76, true), false, [], false⟩,
 ⟨some 78, .load 3 (.tmp 77), some (some 76, true), false, [], false⟩,
 ⟨some 79, .binOp .lss 3 (.tmp 78) (.const (.int .i64 0)) 3, some (some 76, true), false, [], false⟩,
 ⟨some 80, .move (.tmp 79), some (some 76, true), false, [], false⟩,
 ⟨some 81, .fieldAddr 107 (.tmp 2) 1, some (some 80, false), false, [], false⟩,
 ⟨some 82, .fieldAddr 25 (.tmp 81) 3, some (some 80, false), false, [], false⟩,
 ⟨some 83, .load 22 (.tmp 82), some (some 80, false), false, [], false⟩,
 ⟨some 84, .fieldAddr 29 (.tmp 3) 1, some (some 80, false), false, [], false⟩,
 ⟨some 85, .load 3 (.tmp 84), some (some 80, false), false, [], false⟩,
 ⟨some 86, .indexAddr 22 (.tmp 83) (.tmp 85), some (some 80, false), false, [], false⟩,
 ⟨some 87, .load 3 (.tmp 86), some (some 80, false), false, [], false⟩,
 ⟨some 88, .fieldAddr 107 (.tmp 2) 1, some (some 80, false), false, [], false⟩,
 ⟨some 89, .fieldAddr 25 (.tmp 88) 1, some (some 80, false), false, [], false⟩,
 ⟨some 90, .load 3 (.tmp 89), some (some 80, false), false, [], false⟩,
 ⟨some 91, .binOp .eql 3 (.tmp 87) (.tmp 90) 3, some (some 80, false), false, [], false⟩,
 ⟨some 92, .pick (.tmp 80) (.const (.bool true)) (.tmp 91), some (some 76, true), false, [], false⟩,
 ⟨some 93, .pick (.tmp 76) (.tmp 92) (.const (.bool false)), none, false, [], false⟩,
 ⟨some 8, .assign (.tmp 93), none, false, [], false⟩]))
 (.seq
 (.reg false [
 ⟨some 4, .assign (.const (.int .i64 2)), none, false, [], false⟩])
 .ret)))))))))
 (.seq
 (.block 1
 (.seq
 (.reg false [
 ⟨some 95, .move (.tmp 7), none, false, [], false⟩,
 ⟨some 96, .unOp .not 4 (.tmp 95), none, false, [], false⟩,
 ⟨some 94, .assign (.tmp 96), none, false, [], false⟩])
 (.cond (.tmp 94)
 (.seq
 (.reg false [
 ⟨some 4, .assign (.const (.int .i64 11)), none, false, [], false⟩])
 .ret)
 (.seq
 (.reg false [
 ⟨some 98, .move (.tmp 8), none, false, [], false⟩,
 ⟨some 99, .unOp .not 4 (.tmp 98), none, false, [], false⟩,
 ⟨some 97, .assign (.tmp 99), none, false, [], false⟩])
 (.cond (.tmp 97)
 (.seq
 (.reg false [
 ⟨some 4, .assign (.const (.int .i64 6)), none, false, [], false⟩])
 .ret)
 .skip)))))
 (.seq
 (.reg false [
 ⟨some 4, .assign (.const (.int .i64 0)), none, false, [], false⟩])
 .ret))))))
noncomputable def fi139 : FI := ⟨c139, 100, [.tmp 4], .plain⟩
noncomputable def c140 : XC :=
 (.seq
 (.reg false [
 ⟨some 1, .box 25 (.tmp 0), none, false, [], false⟩,
 ⟨some 2, .assign (.const (.bool false)), none, false, [], false⟩])
 (.seq
 (.reg false [
 ⟨some 3, .fieldAddr 25 (.tmp 1) 0, none, false, [], false⟩,
 ⟨some 4, .load 9 (.tmp 3), none, false, [], false⟩,
 ⟨some 5, .binOp .eql 9 (.tmp 4) (.const (.string ⟨#[109, 97, 105, 110]⟩)) 9, none, false, [], false⟩,
 ⟨some 2, .assign (.tmp 5), none, false, [], false⟩])
 .ret))
noncomputable def fi140 : FI := ⟨c140, 6, [.tmp 2], .plain⟩
end Go.Proofs.AmEnv
