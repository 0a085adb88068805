/- The code of this program's functions, as the abstract machine goes over it. Conditions: none. -/
import Derived.Test.YtbgkdlhkmhpdcaaGreatDepthKnownCode0
set_option maxRecDepth 100000
namespace Go.Proofs.AmEnv
open Go Go.AM
noncomputable def c156 : XC :=
 (.seq (.reg false [⟨some 4, .box 46 (.tmp 1), none, false, [], false⟩])
 (.seq (.reg false [⟨some 6, .assign (.const (.slice none 0 0)), none, false, [], false⟩])
 (.seq (.seq
 (.reg false [⟨some 10, .fieldAddr 46 (.tmp 4) 7, none, false, [], false⟩,
 ⟨some 11, .load 22 (.tmp 10), none, false, [], false⟩,
 ⟨some 12, .call ⟨.builtin .len, #[.tmp 11], #[22]⟩, none, false, [], false⟩,
 ⟨some 13, .move (.const (.int .i64 0)), none, false, [], false⟩])
 (.block 0
 (.loop (.seq (.reg false [⟨some 14, .binOp .lss 3 (.tmp 13) (.tmp 12) 3, none, false, [], false⟩])
 (.seq (.cond (.tmp 14)
 .skip
 (.exit 0))
 (.seq (.block 1
 (.seq (.reg false [⟨some 15, .indexAddr 22 (.tmp 11) (.tmp 13), none, false, [], false⟩,
 ⟨some 16, .load 3 (.tmp 15), none, false, [], false⟩,
 ⟨some 8, .assign (.tmp 16), none, false, [], false⟩])
 (.reg false [⟨some 17, .move (.tmp 6), none, false, [], false⟩,
 ⟨some 18, .move (.tmp 2), none, false, [], false⟩,
 ⟨some 19, .move (.tmp 8), none, false, [], false⟩,
 ⟨some 20, .indexAddr 22 (.tmp 18) (.tmp 19), none, false, [], false⟩,
 ⟨some 21, .load 3 (.tmp 20), none, false, [], false⟩,
 ⟨some 22, .buildSlice 22 1 #[(0, .tmp 21)], none, false, [], false⟩,
 ⟨some 23, .call ⟨.builtin .append, #[.tmp 17, .tmp 22], #[22, 22]⟩, none, false, [], false⟩,
 ⟨some 6, .assign (.tmp 23), none, false, [], false⟩])))
 (.reg false [⟨some 24, .binOp .add 3 (.tmp 13) (.const (.int .i64 1)) 3, none, false, [], false⟩,
 ⟨some 13, .move (.tmp 24), none, false, [], false⟩])))))))
 (.seq (.reg false [⟨some 25, .move (.tmp 0), none, false, [], false⟩,
 ⟨some 26, .fieldAddr 46 (.tmp 4) 5, none, false, [], false⟩,
 ⟨some 27, .load 3 (.tmp 26), none, false, [], false⟩,
 ⟨some 28, .move (.tmp 6), none, false, [], false⟩,
 ⟨some 29, .call ⟨.value (.func 101), #[.tmp 25, .tmp 27, .tmp 28], #[114, 3, 22]⟩, none, false, [], false⟩,
 ⟨some 9, .assign (.tmp 29), none, false, [], false⟩])
 (.seq (.reg false [⟨some 30, .fieldAddr 46 (.tmp 4) 2, none, false, [], false⟩,
 ⟨some 31, .load 3 (.tmp 30), none, false, [], false⟩,
 ⟨some 32, .binOp .geq 3 (.tmp 31) (.const (.int .i64 0)) 3, none, false, [], false⟩])
 (.cond (.tmp 32)
 (.reg false [⟨some 33, .move (.tmp 2), none, false, [], false⟩,
 ⟨some 34, .fieldAddr 46 (.tmp 4) 2, none, false, [], false⟩,
 ⟨some 35, .load 3 (.tmp 34), none, false, [], false⟩,
 ⟨some 36, .move (.tmp 9), none, false, [], false⟩,
 ⟨some 37, .indexAddr 22 (.tmp 33) (.tmp 35), none, false, [], false⟩,
 ⟨none, .store 3 (.tmp 37) (.tmp 36), none, false, [], false⟩])
 .skip))))))
noncomputable def fi156 : FI := ⟨c156, 38, [], .plain⟩
noncomputable def c157 : XC :=
 (.seq (.reg false [⟨some 4, .box 46 (.tmp 1), none, false, [], false⟩])
 (.seq (.reg false [⟨some 8, .fieldAddr 46 (.tmp 4) 0, none, false, [], false⟩,
 ⟨some 9, .load 3 (.tmp 8), none, false, [], false⟩])
 (.block 0
 (.seq (.reg false [⟨some 11, .binOp .eql 3 (.tmp 9) (.const (.int .i64 1)) 3, none, false, [], false⟩,
 ⟨some 10, .assign (.tmp 11), none, false, [], false⟩])
 (.cond (.tmp 10)
 (.reg false [⟨some 12, .move (.tmp 2), none, false, [], false⟩,
 ⟨some 13, .fieldAddr 46 (.tmp 4) 2, none, false, [], false⟩,
 ⟨some 14, .load 3 (.tmp 13), none, false, [], false⟩,
 ⟨some 15, .fieldAddr 46 (.tmp 4) 5, none, false, [], false⟩,
 ⟨some 16, .load 3 (.tmp 15), none, false, [], false⟩,
 ⟨some 17, .indexAddr 22 (.tmp 12) (.tmp 14), none, false, [], false⟩,
 ⟨none, .store 3 (.tmp 17) (.tmp 16), none, false, [], false⟩])
 (.seq (.reg false [⟨some 19, .binOp .eql 3 (.tmp 9) (.const (.int .i64 2)) 3, none, false, [], false⟩,
 ⟨some 18, .assign (.tmp 19), none, false, [], false⟩])
 (.cond (.tmp 18)
 (.reg true [⟨some 20, .move (.tmp 2), none, false, [], false⟩,
 ⟨some 21, .fieldAddr 46 (.tmp 4) 2, none, false, [], false⟩,
 ⟨some 22, .load 3 (.tmp 21), none, false, [], false⟩,
 ⟨some 23, .move (.tmp 2), none, false, [], false⟩,
 ⟨some 24, .fieldAddr 46 (.tmp 4) 3, none, false, [], false⟩,
 ⟨some 25, .load 3 (.tmp 24), none, false, [], false⟩,
 ⟨some 26, .indexAddr 22 (.tmp 23) (.tmp 25), none, false, [], false⟩,
 ⟨some 27, .load 3 (.tmp 26), none, false, [], false⟩,
 ⟨some 28, .indexAddr 22 (.tmp 20) (.tmp 22), none, false, [], false⟩,
 ⟨none, .store 3 (.tmp 28) (.tmp 27), none, false, [], false⟩])
 (.seq (.reg false [⟨some 30, .binOp .eql 3 (.tmp 9) (.const (.int .i64 3)) 3, none, false, [], false⟩,
 ⟨some 29, .assign (.tmp 30), none, false, [], false⟩])
 (.cond (.tmp 29)
 (.seq (.reg true [⟨some 32, .fieldAddr 46 (.tmp 4) 1, none, false, [], false⟩,
 ⟨some 33, .load 3 (.tmp 32), none, false, [], false⟩,
 ⟨some 34, .fieldAddr 46 (.tmp 4) 6, none, false, [], false⟩,
 ⟨some 35, .load 9 (.tmp 34), none, false, [], false⟩,
 ⟨some 36, .move (.tmp 2), none, false, [], false⟩,
 ⟨some 37, .fieldAddr 46 (.tmp 4) 3, none, false, [], false⟩,
 ⟨some 38, .load 3 (.tmp 37), none, false, [], false⟩,
 ⟨some 39, .indexAddr 22 (.tmp 36) (.tmp 38), none, false, [], false⟩,
 ⟨some 40, .load 3 (.tmp 39), none, false, [], false⟩,
 ⟨some 41, .move (.tmp 2), none, false, [], false⟩,
 ⟨some 42, .fieldAddr 46 (.tmp 4) 4, none, false, [], false⟩,
 ⟨some 43, .load 3 (.tmp 42), none, false, [], false⟩,
 ⟨some 44, .indexAddr 22 (.tmp 41) (.tmp 43), none, false, [], false⟩,
 ⟨some 45, .load 3 (.tmp 44), none, false, [], false⟩,
 ⟨some 46, .call ⟨.value (.func 194), #[.tmp 33, .tmp 35, .tmp 40, .tmp 45], #[3, 9, 3, 3]⟩, none, false, [true, true, true, true, true], false⟩,
 ⟨some 31, .move (.tmp 46), none, false, [], false⟩,
 ⟨some 47, .extract (.tmp 31) 0, none, false, [], false⟩,
 ⟨some 48, .extract (.tmp 31) 1, none, false, [], false⟩,
 ⟨some 6, .assign (.tmp 47), none, false, [], false⟩,
 ⟨some 7, .assign (.tmp 48), none, false, [], false⟩])
 (.seq (.reg false [⟨some 49, .move (.tmp 7), none, false, [], false⟩,
 ⟨some 50, .call ⟨.value (.func 154), #[.tmp 49], #[3]⟩, none, false, [], false⟩])
 (.reg false [⟨some 51, .move (.tmp 2), none, false, [], false⟩,
 ⟨some 52, .fieldAddr 46 (.tmp 4) 2, none, false, [], false⟩,
 ⟨some 53, .load 3 (.tmp 52), none, false, [], false⟩,
 ⟨some 54, .move (.tmp 6), none, false, [], false⟩,
 ⟨some 55, .indexAddr 22 (.tmp 51) (.tmp 53), none, false, [], false⟩,
 ⟨none, .store 3 (.tmp 55) (.tmp 54), none, false, [], false⟩])))
 (.seq (.reg false [⟨some 57, .binOp .eql 3 (.tmp 9) (.const (.int .i64 4)) 3, none, false, [], false⟩,
 ⟨some 56, .assign (.tmp 57), none, false, [], false⟩])
 (.cond (.tmp 56)
 (.reg true [⟨some 61, .fieldAddr 46 (.tmp 4) 1, none, false, [], false⟩,
 ⟨some 62, .load 3 (.tmp 61), none, false, [], false⟩,
 ⟨some 63, .move (.tmp 2), none, false, [], false⟩,
 ⟨some 64, .fieldAddr 46 (.tmp 4) 3, none, false, [], false⟩,
 ⟨some 65, .load 3 (.tmp 64), none, false, [], false⟩,
 ⟨some 66, .indexAddr 22 (.tmp 63) (.tmp 65), none, false, [], false⟩,
 ⟨some 67, .load 3 (.tmp 66), none, false, [], false⟩,
 ⟨some 68, .call ⟨.value (.func 195), #[.tmp 62, .tmp 67], #[3, 3]⟩, none, true, [false, false, false, true, true], false⟩,
 ⟨some 58, .move (.tmp 2), none, false, [], false⟩,
 ⟨some 59, .fieldAddr 46 (.tmp 4) 2, none, false, [], false⟩,
 ⟨some 60, .load 3 (.tmp 59), none, false, [], true⟩,
 ⟨some 69, .indexAddr 22 (.tmp 58) (.tmp 60), none, false, [], false⟩,
 ⟨none, .store 3 (.tmp 69) (.tmp 68), none, false, [], false⟩])
 (.seq (.reg false [⟨some 71, .binOp .eql 3 (.tmp 9) (.const (.int .i64 5)) 3, none, false, [], false⟩,
 ⟨some 70, .assign (.tmp 71), none, false, [], false⟩])
 (.cond (.tmp 70)
 (.reg true [⟨some 75, .move (.tmp 0), none, false, [], false⟩,
 ⟨some 76, .fieldAddr 46 (.tmp 4) 5, none, false, [], false⟩,
 ⟨some 77, .load 3 (.tmp 76), none, false, [], false⟩,
 ⟨some 78, .move (.tmp 2), none, false, [], false⟩,
 ⟨some 79, .fieldAddr 46 (.tmp 4) 3, none, false, [], false⟩,
 ⟨some 80, .load 3 (.tmp 79), none, false, [], false⟩,
 ⟨some 81, .indexAddr 22 (.tmp 78) (.tmp 80), none, false, [], false⟩,
 ⟨some 82, .load 3 (.tmp 81), none, false, [], false⟩,
 ⟨some 83, .call ⟨.value (.func 196), #[.tmp 75, .tmp 77, .tmp 82], #[114, 3, 3]⟩, none, true, [false, false, false, true, true, true, true], false⟩,
 ⟨some 72, .move (.tmp 2), none, false, [], false⟩,
 ⟨some 73, .fieldAddr 46 (.tmp 4) 2, none, false, [], false⟩,
 ⟨some 74, .load 3 (.tmp 73), none, false, [], true⟩,
 ⟨some 84, .nilCheck (.tmp 83), none, false, [], false⟩,
 ⟨some 85, .load 3 (.tmp 84), none, false, [], false⟩,
 ⟨some 86, .indexAddr 22 (.tmp 72) (.tmp 74), none, false, [], false⟩,
 ⟨none, .store 3 (.tmp 86) (.tmp 85), none, false, [], false⟩])
 (.seq (.reg false [⟨some 88, .binOp .eql 3 (.tmp 9) (.const (.int .i64 6)) 3, none, false, [], false⟩,
 ⟨some 87, .assign (.tmp 88), none, false, [], false⟩])
 (.cond (.tmp 87)
 (.reg true [⟨some 89, .move (.tmp 0), none, false, [], false⟩,
 ⟨some 90, .fieldAddr 46 (.tmp 4) 5, none, false, [], false⟩,
 ⟨some 91, .load 3 (.tmp 90), none, false, [], false⟩,
 ⟨some 92, .move (.tmp 2), none, false, [], false⟩,
 ⟨some 93, .fieldAddr 46 (.tmp 4) 3, none, false, [], false⟩,
 ⟨some 94, .load 3 (.tmp 93), none, false, [], false⟩,
 ⟨some 95, .indexAddr 22 (.tmp 92) (.tmp 94), none, false, [], false⟩,
 ⟨some 96, .load 3 (.tmp 95), none, false, [], false⟩,
 ⟨some 97, .call ⟨.value (.func 196), #[.tmp 89, .tmp 91, .tmp 96], #[114, 3, 3]⟩, none, true, [false, false, false, false, false, false, false, false, false, false, false, false, false, false, false, true, true, true], false⟩,
 ⟨some 98, .move (.tmp 0), none, false, [], false⟩,
 ⟨some 99, .nilCheck (.tmp 98), none, false, [], false⟩,
 ⟨some 100, .fieldAddr 116 (.tmp 99) 0, none, false, [], false⟩,
 ⟨some 101, .fieldAddr 36 (.tmp 100) 0, none, false, [], false⟩,
 ⟨some 102, .load 34 (.tmp 101), none, false, [], true⟩,
 ⟨some 103, .fieldAddr 46 (.tmp 4) 5, none, false, [], false⟩,
 ⟨some 104, .load 3 (.tmp 103), none, false, [], true⟩,
 ⟨some 105, .indexAddr 34 (.tmp 102) (.tmp 104), none, false, [], false⟩,
 ⟨some 106, .fieldAddr 105 (.tmp 105) 1, none, false, [], false⟩,
 ⟨some 107, .load 3 (.tmp 106), none, false, [], true⟩,
 ⟨some 108, .move (.tmp 2), none, false, [], false⟩,
 ⟨some 109, .fieldAddr 46 (.tmp 4) 4, none, false, [], false⟩,
 ⟨some 110, .load 3 (.tmp 109), none, false, [], true⟩,
 ⟨some 111, .indexAddr 22 (.tmp 108) (.tmp 110), none, false, [], false⟩,
 ⟨some 112, .load 3 (.tmp 111), none, false, [], true⟩,
 ⟨some 113, .call ⟨.value (.func 195), #[.tmp 107, .tmp 112], #[3, 3]⟩, none, false, [true, true], false⟩,
 ⟨some 114, .nilCheck (.tmp 97), none, false, [], false⟩,
 ⟨none, .store 3 (.tmp 114) (.tmp 113), none, false, [], false⟩])
 (.seq (.reg false [⟨some 116, .binOp .eql 3 (.tmp 9) (.const (.int .i64 7)) 3, none, false, [], false⟩,
 ⟨some 115, .assign (.tmp 116), none, false, [], false⟩])
 (.cond (.tmp 115)
 (.reg true [⟨some 117, .move (.tmp 2), none, false, [], false⟩,
 ⟨some 118, .fieldAddr 46 (.tmp 4) 2, none, false, [], false⟩,
 ⟨some 119, .load 3 (.tmp 118), none, false, [], false⟩,
 ⟨some 120, .move (.tmp 0), none, false, [], false⟩,
 ⟨some 121, .nilCheck (.tmp 120), none, false, [], false⟩,
 ⟨some 122, .fieldAddr 116 (.tmp 121) 3, none, false, [], false⟩,
 ⟨some 123, .load 87 (.tmp 122), none, false, [], false⟩,
 ⟨some 124, .fieldAddr 46 (.tmp 4) 5, none, false, [], false⟩,
 ⟨some 125, .load 3 (.tmp 124), none, false, [], false⟩,
 ⟨some 126, .indexAddr 87 (.tmp 123) (.tmp 125), none, false, [], false⟩,
 ⟨some 127, .load 22 (.tmp 126), none, false, [], false⟩,
 ⟨some 128, .indexAddr 22 (.tmp 127) (.const (.int .i64 0)), none, false, [], false⟩,
 ⟨some 129, .load 3 (.tmp 128), none, false, [], false⟩,
 ⟨some 130, .indexAddr 22 (.tmp 117) (.tmp 119), none, false, [], false⟩,
 ⟨none, .store 3 (.tmp 130) (.tmp 129), none, false, [], false⟩])
 (.seq (.reg false [⟨some 132, .binOp .eql 3 (.tmp 9) (.const (.int .i64 8)) 3, none, false, [], false⟩,
 ⟨some 131, .assign (.tmp 132), none, false, [], false⟩])
 (.cond (.tmp 131)
 (.reg true [⟨some 133, .move (.tmp 0), none, false, [], false⟩,
 ⟨some 134, .nilCheck (.tmp 133), none, false, [], false⟩,
 ⟨some 135, .fieldAddr 116 (.tmp 134) 3, none, false, [], false⟩,
 ⟨some 136, .load 87 (.tmp 135), none, false, [], false⟩,
 ⟨some 137, .fieldAddr 46 (.tmp 4) 5, none, false, [], false⟩,
 ⟨some 138, .load 3 (.tmp 137), none, false, [], false⟩,
 ⟨some 139, .indexAddr 87 (.tmp 136) (.tmp 138), none, false, [], false⟩,
 ⟨some 140, .load 22 (.tmp 139), none, false, [], false⟩,
 ⟨some 141, .move (.tmp 2), none, false, [], false⟩,
 ⟨some 142, .fieldAddr 46 (.tmp 4) 3, none, false, [], false⟩,
 ⟨some 143, .load 3 (.tmp 142), none, false, [], false⟩,
 ⟨some 144, .indexAddr 22 (.tmp 141) (.tmp 143), none, false, [], false⟩,
 ⟨some 145, .load 3 (.tmp 144), none, false, [], false⟩,
 ⟨some 146, .indexAddr 22 (.tmp 140) (.const (.int .i64 0)), none, false, [], false⟩,
 ⟨none, .store 3 (.tmp 146) (.tmp 145), none, false, [], false⟩])
 (.seq (.reg false [⟨some 148, .binOp .eql 3 (.tmp 9) (.const (.int .i64 10)) 3, none, false, [], false⟩,
 ⟨some 147, .assign (.tmp 148), none, false, [], false⟩])
 (.cond (.tmp 147)
 (.reg true [⟨some 152, .move (.tmp 0), none, false, [], false⟩,
 ⟨some 153, .call ⟨.value (.func 197), #[.tmp 152], #[114]⟩, none, true, [false, false, false, true, true], false⟩,
 ⟨some 149, .move (.tmp 2), none, false, [], false⟩,
 ⟨some 150, .fieldAddr 46 (.tmp 4) 2, none, false, [], false⟩,
 ⟨some 151, .load 3 (.tmp 150), none, false, [], true⟩,
 ⟨some 154, .indexAddr 22 (.tmp 149) (.tmp 151), none, false, [], false⟩,
 ⟨none, .store 3 (.tmp 154) (.tmp 153), none, false, [], false⟩])
 (.seq (.reg false [⟨some 156, .binOp .eql 3 (.tmp 9) (.const (.int .i64 11)) 3, none, false, [], false⟩,
 ⟨some 155, .assign (.tmp 156), none, false, [], false⟩])
 (.cond (.tmp 155)
 (.reg true [⟨some 163, .move (.tmp 2), none, false, [], false⟩,
 ⟨some 164, .fieldAddr 46 (.tmp 4) 3, none, false, [], false⟩,
 ⟨some 165, .load 3 (.tmp 164), none, false, [], false⟩,
 ⟨some 166, .indexAddr 22 (.tmp 163) (.tmp 165), none, false, [], false⟩,
 ⟨some 167, .load 3 (.tmp 166), none, false, [], false⟩,
 ⟨some 168, .buildSlice 22 1 #[(0, .tmp 167)], none, false, [], false⟩,
 ⟨some 158, .move (.tmp 0), none, false, [], false⟩,
 ⟨some 159, .nilCheck (.tmp 158), none, false, [], false⟩,
 ⟨some 160, .fieldAddr 116 (.tmp 159) 4, none, false, [], false⟩,
 ⟨some 161, .fieldAddr 66 (.tmp 160) 0, none, false, [], false⟩,
 ⟨some 162, .load 22 (.tmp 161), none, false, [], false⟩,
 ⟨some 169, .call ⟨.builtin .append, #[.tmp 162, .tmp 168], #[22, 22]⟩, none, false, [false, true, true, true, true], false⟩,
 ⟨some 157, .move (.tmp 0), none, false, [], false⟩,
 ⟨some 170, .nilCheck (.tmp 157), none, false, [], false⟩,
 ⟨some 171, .fieldAddr 116 (.tmp 170) 4, none, false, [], false⟩,
 ⟨some 172, .fieldAddr 66 (.tmp 171) 0, none, false, [], false⟩,
 ⟨none, .store 22 (.tmp 172) (.tmp 169), none, false, [], false⟩])
 .skip)))))))))))))))))))))))
noncomputable def fi157 : FI := ⟨c157, 173, [], .plain⟩
noncomputable def c164 : XC :=
 (.seq (.reg false [⟨some 2, .assign (.const (.int .i64 0)), none, false, [], false⟩])
 (.seq (.reg false [⟨some 3, .move (.tmp 0), none, false, [], false⟩,
 ⟨some 4, .binOp .mul 3 (.const (.int .i64 13)) (.tmp 3) 3, none, false, [], false⟩,
 ⟨some 5, .binOp .add 3 (.const (.int .i64 7001)) (.tmp 4) 3, none, false, [], false⟩,
 ⟨some 2, .assign (.tmp 5), none, false, [], false⟩])
 .ret))
noncomputable def fi164 : FI := ⟨c164, 6, [.tmp 2], .plain⟩
noncomputable def c165 : XC :=
 (.seq (.reg false [⟨some 2, .alloc 46, none, false, [], false⟩])
 (.seq (.reg false [⟨some 3, .move (.tmp 0), none, false, [], false⟩,
 ⟨some 4, .binOp .sub 3 (.const (.int .i64 (-9))) (.tmp 3) 3, none, false, [], false⟩,
 ⟨some 5, .build 46 #[(0, .tmp 4)], none, false, [], false⟩,
 ⟨none, .store 46 (.tmp 2) (.tmp 5), none, false, [], false⟩])
 .ret))
noncomputable def fi165 : FI := ⟨c165, 6, [.cell 2 46], .plain⟩
noncomputable def c166 : XC :=
 (.seq (.reg false [⟨some 2, .alloc 49, none, false, [], false⟩])
 (.seq (.reg false [⟨some 3, .move (.tmp 0), none, false, [], false⟩,
 ⟨some 4, .binOp .sub 3 (.const (.int .i64 (-9))) (.tmp 3) 3, none, false, [], false⟩,
 ⟨some 5, .build 29 #[(0, .tmp 4)], none, false, [], false⟩,
 ⟨some 6, .build 49 #[(1, .tmp 5)], none, false, [], false⟩,
 ⟨none, .store 49 (.tmp 2) (.tmp 6), none, false, [], false⟩])
 .ret))
noncomputable def fi166 : FI := ⟨c166, 7, [.cell 2 49], .plain⟩
noncomputable def c167 : XC :=
 (.seq (.reg false [⟨some 7, .fieldAddr 25 (.tmp 1) 4, none, false, [], false⟩,
 ⟨some 8, .load 23 (.tmp 7), none, false, [], false⟩,
 ⟨some 9, .call ⟨.builtin .len, #[.tmp 8], #[23]⟩, none, false, [], false⟩,
 ⟨some 10, .move (.const (.int .i64 0)), none, false, [], false⟩])
 (.block 0
 (.loop (.seq (.reg false [⟨some 11, .binOp .lss 3 (.tmp 10) (.tmp 9) 3, none, false, [], false⟩])
 (.seq (.cond (.tmp 11)
 .skip
 (.exit 0))
 (.seq (.block 1
 (.seq (.reg false [⟨some 12, .indexAddr 23 (.tmp 8) (.tmp 10), none, false, [], false⟩,
 ⟨some 13, .load 49 (.tmp 12), none, false, [], false⟩,
 ⟨some 4, .alloc 49, none, false, [], false⟩,
 ⟨none, .store 49 (.tmp 4) (.tmp 13), none, false, [], false⟩])
 (.seq (.reg false [⟨some 14, .fieldAddr 49 (.tmp 4) 0, none, false, [], false⟩,
 ⟨some 15, .load 47 (.tmp 14), none, false, [], false⟩,
 ⟨some 16, .call ⟨.builtin .len, #[.tmp 15], #[47]⟩, none, false, [], false⟩,
 ⟨some 17, .move (.const (.int .i64 0)), none, false, [], false⟩])
 (.block 2
 (.loop (.seq (.reg false [⟨some 18, .binOp .lss 3 (.tmp 17) (.tmp 16) 3, none, false, [], false⟩])
 (.seq (.cond (.tmp 18)
 .skip
 (.exit 2))
 (.seq (.block 3
 (.seq (.reg false [⟨some 19, .move (.tmp 17), none, false, [], false⟩,
 ⟨some 5, .assign (.tmp 19), none, false, [], false⟩])
 (.seq (.reg false [⟨some 20, .fieldAddr 49 (.tmp 4) 0, none, false, [], false⟩,
 ⟨some 21, .load 47 (.tmp 20), none, false, [], false⟩,
 ⟨some 22, .move (.tmp 5), none, false, [], false⟩,
 ⟨some 23, .indexAddr 47 (.tmp 21) (.tmp 22), none, false, [], false⟩,
 ⟨some 6, .assign (.tmp 23), none, false, [], false⟩])
 (.seq (.reg false [⟨some 24, .move (.tmp 6), none, false, [], false⟩,
 ⟨some 25, .nilCheck (.tmp 24), none, false, [], false⟩,
 ⟨some 26, .fieldAddr 46 (.tmp 25) 0, none, false, [], false⟩,
 ⟨some 27, .load 3 (.tmp 26), none, false, [], false⟩,
 ⟨some 28, .binOp .eql 3 (.tmp 27) (.const (.int .i64 9)) 3, none, false, [], false⟩,
 ⟨some 29, .move (.tmp 28), none, false, [], false⟩,
 ⟨some 30, .move (.tmp 0), some (some 29, true), false, [], false⟩,
 ⟨some 31, .move (.tmp 6), some (some 29, true), false, [], false⟩,
 ⟨some 32, .call ⟨.value (.tmp 30), #[.tmp 31], #[133]⟩, some (some 29, true), false, [], false⟩,
 ⟨some 33, .unOp .not 4 (.tmp 32), some (some 29, true), false, [], false⟩,
 ⟨some 34, .pick (.tmp 29) (.tmp 33) (.const (.bool false)), none, false, [], false⟩])
 (.cond (.tmp 34)
 .ret
 .skip)))))
 (.reg false [⟨some 35, .binOp .add 3 (.tmp 17) (.const (.int .i64 1)) 3, none, false, [], false⟩,
 ⟨some 17, .move (.tmp 35), none, false, [], false⟩])))))))))
 (.reg false [⟨some 36, .binOp .add 3 (.tmp 10) (.const (.int .i64 1)) 3, none, false, [], false⟩,
 ⟨some 10, .move (.tmp 36), none, false, [], false⟩])))))))
noncomputable def fi167 : FI := ⟨c167, 37, [], .itf (.seq (.reg (.reg false [⟨some 7, .fieldAddr 25 (.tmp 1) 4, none, false, [], false⟩,
 ⟨some 8, .load 23 (.tmp 7), none, false, [], false⟩,
 ⟨some 9, .call ⟨.builtin .len, #[.tmp 8], #[23]⟩, none, false, [], false⟩,
 ⟨some 10, .move (.const (.int .i64 0)), none, false, [], false⟩])) (.block 0 (.loop (.seq (.reg (.reg false [⟨some 11, .binOp .lss 3 (.tmp 10) (.tmp 9) 3, none, false, [], false⟩])) (.seq (.cond (.tmp 11) .skip (.exit 0)) (.seq (.block 1 (.seq (.reg (.reg false [⟨some 12, .indexAddr 23 (.tmp 8) (.tmp 10), none, false, [], false⟩,
 ⟨some 13, .load 49 (.tmp 12), none, false, [], false⟩,
 ⟨some 4, .alloc 49, none, false, [], false⟩,
 ⟨none, .store 49 (.tmp 4) (.tmp 13), none, false, [], false⟩])) (.seq (.reg (.reg false [⟨some 14, .fieldAddr 49 (.tmp 4) 0, none, false, [], false⟩,
 ⟨some 15, .load 47 (.tmp 14), none, false, [], false⟩,
 ⟨some 16, .call ⟨.builtin .len, #[.tmp 15], #[47]⟩, none, false, [], false⟩,
 ⟨some 17, .move (.const (.int .i64 0)), none, false, [], false⟩])) (.block 2 (.loop (.seq (.reg (.reg false [⟨some 18, .binOp .lss 3 (.tmp 17) (.tmp 16) 3, none, false, [], false⟩])) (.seq (.cond (.tmp 18) .skip (.exit 2)) (.seq (.block 3 (.seq (.reg (.reg false [⟨some 19, .move (.tmp 17), none, false, [], false⟩,
 ⟨some 5, .assign (.tmp 19), none, false, [], false⟩])) (.seq (.reg (.reg false [⟨some 20, .fieldAddr 49 (.tmp 4) 0, none, false, [], false⟩,
 ⟨some 21, .load 47 (.tmp 20), none, false, [], false⟩,
 ⟨some 22, .move (.tmp 5), none, false, [], false⟩,
 ⟨some 23, .indexAddr 47 (.tmp 21) (.tmp 22), none, false, [], false⟩,
 ⟨some 6, .assign (.tmp 23), none, false, [], false⟩])) (.seq (.yreg (.reg false [⟨some 24, .move (.tmp 6), none, false, [], false⟩,
 ⟨some 25, .nilCheck (.tmp 24), none, false, [], false⟩,
 ⟨some 26, .fieldAddr 46 (.tmp 25) 0, none, false, [], false⟩,
 ⟨some 27, .load 3 (.tmp 26), none, false, [], false⟩,
 ⟨some 28, .binOp .eql 3 (.tmp 27) (.const (.int .i64 9)) 3, none, false, [], false⟩,
 ⟨some 29, .move (.tmp 28), none, false, [], false⟩]) (some (some 29, true)) 30 (.reg false [⟨some 31, .move (.tmp 6), some (some 29, true), false, [], false⟩]) 32 [.tmp 31] (.reg false [⟨some 33, .unOp .not 4 (.tmp 32), some (some 29, true), false, [], false⟩,
 ⟨some 34, .pick (.tmp 29) (.tmp 33) (.const (.bool false)), none, false, [], false⟩])) (.cond (.tmp 34) .ret .skip))))) (.reg (.reg false [⟨some 35, .binOp .add 3 (.tmp 17) (.const (.int .i64 1)) 3, none, false, [], false⟩,
 ⟨some 17, .move (.tmp 35), none, false, [], false⟩])))))))))) (.reg (.reg false [⟨some 36, .binOp .add 3 (.tmp 10) (.const (.int .i64 1)) 3, none, false, [], false⟩,
 ⟨some 10, .move (.tmp 36), none, false, [], false⟩]))))))))⟩
noncomputable def c168 : XC :=
 (.seq (.reg false [⟨some 3, .box 36 (.tmp 0), none, false, [], false⟩,
 ⟨some 6, .assign (.const (.bool false)), none, false, [], false⟩])
 (.seq (.seq
 (.reg false [⟨some 7, .assign (.const (.int .i64 0)), none, false, [], false⟩])
 (.block 0
 (.loop (.seq (.seq
 (.reg false [⟨some 10, .move (.tmp 7), none, false, [], false⟩,
 ⟨some 11, .fieldAddr 36 (.tmp 3) 1, none, false, [], false⟩,
 ⟨some 12, .load 33 (.tmp 11), none, false, [], false⟩,
 ⟨some 13, .move (.tmp 1), none, false, [], false⟩,
 ⟨some 14, .indexAddr 33 (.tmp 12) (.tmp 13), none, false, [], false⟩,
 ⟨some 15, .fieldAddr 25 (.tmp 14) 4, none, false, [], false⟩,
 ⟨some 16, .load 23 (.tmp 15), none, false, [], false⟩,
 ⟨some 17, .call ⟨.builtin .len, #[.tmp 16], #[23]⟩, none, false, [], false⟩,
 ⟨some 18, .binOp .lss 3 (.tmp 10) (.tmp 17) 3, none, false, [], false⟩])
 (.cond (.tmp 18)
 .skip
 (.exit 0)))
 (.seq (.block 1
 (.seq (.reg false [⟨some 21, .fieldAddr 36 (.tmp 3) 1, none, false, [], false⟩,
 ⟨some 22, .load 33 (.tmp 21), none, false, [], false⟩,
 ⟨some 23, .move (.tmp 1), none, false, [], false⟩,
 ⟨some 24, .indexAddr 33 (.tmp 22) (.tmp 23), none, false, [], false⟩,
 ⟨some 25, .fieldAddr 25 (.tmp 24) 4, none, false, [], false⟩,
 ⟨some 26, .load 23 (.tmp 25), none, false, [], false⟩,
 ⟨some 27, .move (.tmp 7), none, false, [], false⟩,
 ⟨some 28, .indexAddr 23 (.tmp 26) (.tmp 27), none, false, [], false⟩,
 ⟨some 29, .fieldAddr 49 (.tmp 28) 0, none, false, [], false⟩,
 ⟨some 30, .load 47 (.tmp 29), none, false, [], false⟩,
 ⟨some 8, .assign (.tmp 30), none, false, [], false⟩])
 (.seq (.reg false [⟨some 9, .assign (.const (.int .i64 0)), none, false, [], false⟩])
 (.block 2
 (.loop (.seq (.seq
 (.reg false [⟨some 31, .move (.tmp 9), none, false, [], false⟩,
 ⟨some 32, .move (.tmp 8), none, false, [], false⟩,
 ⟨some 33, .call ⟨.builtin .len, #[.tmp 32], #[47]⟩, none, false, [], false⟩,
 ⟨some 34, .binOp .lss 3 (.tmp 31) (.tmp 33) 3, none, false, [], false⟩])
 (.cond (.tmp 34)
 .skip
 (.exit 2)))
 (.seq (.block 3
 (.seq (.reg false [⟨some 37, .move (.tmp 8), none, false, [], false⟩,
 ⟨some 38, .move (.tmp 9), none, false, [], false⟩,
 ⟨some 39, .indexAddr 47 (.tmp 37) (.tmp 38), none, false, [], false⟩,
 ⟨some 40, .fieldAddr 46 (.tmp 39) 0, none, false, [], false⟩,
 ⟨some 41, .load 3 (.tmp 40), none, false, [], false⟩,
 ⟨some 42, .binOp .eql 3 (.tmp 41) (.const (.int .i64 9)) 3, none, false, [], false⟩,
 ⟨some 43, .move (.tmp 42), none, false, [], false⟩,
 ⟨some 44, .move (.tmp 8), some (some 43, true), false, [], false⟩,
 ⟨some 45, .move (.tmp 9), some (some 43, true), false, [], false⟩,
 ⟨some 46, .indexAddr 47 (.tmp 44) (.tmp 45), some (some 43, true), false, [], false⟩,
 ⟨some 47, .fieldAddr 46 (.tmp 46) 5, some (some 43, true), false, [], false⟩,
 ⟨some 48, .load 3 (.tmp 47), some (some 43, true), false, [], false⟩,
 ⟨some 49, .move (.tmp 2), some (some 43, true), false, [], false⟩,
 ⟨some 50, .binOp .eql 3 (.tmp 48) (.tmp 49) 3, some (some 43, true), false, [], false⟩,
 ⟨some 51, .pick (.tmp 43) (.tmp 50) (.const (.bool false)), none, false, [], false⟩])
 (.cond (.tmp 51)
 (.seq (.reg false [⟨some 6, .assign (.const (.bool true)), none, false, [], false⟩])
 .ret)
 .skip)))
 (.reg false [⟨some 35, .move (.tmp 9), none, false, [], false⟩,
 ⟨some 36, .binOp .add 3 (.tmp 35) (.const (.int .i64 1)) 3, none, false, [], false⟩,
 ⟨some 9, .assign (.tmp 36), none, false, [], false⟩]))))))))
 (.reg false [⟨some 19, .move (.tmp 7), none, false, [], false⟩,
 ⟨some 20, .binOp .add 3 (.tmp 19) (.const (.int .i64 1)) 3, none, false, [], false⟩,
 ⟨some 7, .assign (.tmp 20), none, false, [], false⟩]))))))
 (.seq (.reg false [⟨some 6, .assign (.const (.bool false)), none, false, [], false⟩])
 .ret)))
noncomputable def fi168 : FI := ⟨c168, 52, [.tmp 6], .plain⟩
noncomputable def c169 : XC :=
 (.seq (.reg false [⟨some 2, .alloc 105, none, false, [], false⟩])
 (.seq (.reg false [⟨some 3, .move (.tmp 0), none, false, [], false⟩,
 ⟨some 4, .binOp .sub 3 (.const (.int .i64 (-9))) (.tmp 3) 3, none, false, [], false⟩,
 ⟨some 5, .build 105 #[(1, .tmp 4)], none, false, [], false⟩,
 ⟨none, .store 105 (.tmp 2) (.tmp 5), none, false, [], false⟩])
 .ret))
noncomputable def fi169 : FI := ⟨c169, 6, [.cell 2 105], .plain⟩
noncomputable def c170 : XC :=
 (.seq (.reg false [⟨some 2, .alloc 25, none, false, [], false⟩])
 (.seq (.reg false [⟨some 3, .move (.tmp 0), none, false, [], false⟩,
 ⟨some 4, .binOp .sub 3 (.const (.int .i64 (-9))) (.tmp 3) 3, none, false, [], false⟩,
 ⟨some 5, .build 25 #[(1, .tmp 4)], none, false, [], false⟩,
 ⟨none, .store 25 (.tmp 2) (.tmp 5), none, false, [], false⟩])
 .ret))
noncomputable def fi170 : FI := ⟨c170, 6, [.cell 2 25], .plain⟩
noncomputable def c175 : XC :=
 (.seq (.reg false [⟨some 4, .assign (.const (.int .i64 0)), none, false, [], false⟩])
 (.seq (.seq
 (.reg false [⟨some 6, .move (.tmp 0), none, false, [], false⟩,
 ⟨some 7, .call ⟨.builtin .len, #[.tmp 6], #[22]⟩, none, false, [], false⟩,
 ⟨some 8, .move (.const (.int .i64 0)), none, false, [], false⟩])
 (.block 0
 (.loop (.seq (.reg false [⟨some 9, .binOp .lss 3 (.tmp 8) (.tmp 7) 3, none, false, [], false⟩])
 (.seq (.cond (.tmp 9)
 .skip
 (.exit 0))
 (.seq (.block 1
 (.seq (.reg false [⟨some 10, .move (.tmp 8), none, false, [], false⟩,
 ⟨some 5, .assign (.tmp 10), none, false, [], false⟩])
 (.seq (.reg false [⟨some 11, .move (.tmp 1), none, false, [], false⟩,
 ⟨some 12, .move (.tmp 0), none, false, [], false⟩,
 ⟨some 13, .move (.tmp 5), none, false, [], false⟩,
 ⟨some 14, .indexAddr 22 (.tmp 12) (.tmp 13), none, false, [], false⟩,
 ⟨some 15, .load 3 (.tmp 14), none, false, [], false⟩,
 ⟨some 16, .call ⟨.value (.tmp 11), #[.tmp 15], #[3]⟩, none, false, [], false⟩])
 (.cond (.tmp 16)
 (.seq (.reg false [⟨some 17, .move (.tmp 5), none, false, [], false⟩,
 ⟨some 4, .assign (.tmp 17), none, false, [], false⟩])
 .ret)
 .skip))))
 (.reg false [⟨some 18, .binOp .add 3 (.tmp 8) (.const (.int .i64 1)) 3, none, false, [], false⟩,
 ⟨some 8, .move (.tmp 18), none, false, [], false⟩])))))))
 (.seq (.reg false [⟨some 4, .assign (.const (.int .i64 (-1))), none, false, [], false⟩])
 .ret)))
noncomputable def fi175 : FI := ⟨c175, 19, [.tmp 4], .plain⟩
noncomputable def c176 : XC :=
 (.seq (.reg false [⟨some 1, .box 46 (.tmp 0), none, false, [], false⟩,
 ⟨some 2, .assign (.const (.bool false)), none, false, [], false⟩])
 (.seq (.seq
 (.reg false [⟨some 3, .fieldAddr 46 (.tmp 1) 0, none, false, [], false⟩,
 ⟨some 4, .load 3 (.tmp 3), none, false, [], false⟩])
 (.block 0
 (.seq (.reg false [⟨some 6, .binOp .eql 3 (.tmp 4) (.const (.int .i64 3)) 3, none, false, [], false⟩,
 ⟨some 5, .assign (.tmp 6), none, false, [], false⟩])
 (.cond (.tmp 5)
 (.seq (.reg false [⟨some 7, .fieldAddr 46 (.tmp 1) 6, none, false, [], false⟩,
 ⟨some 8, .load 9 (.tmp 7), none, false, [], false⟩,
 ⟨some 9, .binOp .neq 9 (.tmp 8) (.const (.string ⟨#[]⟩)) 9, none, false, [], false⟩,
 ⟨some 10, .move (.tmp 9), none, false, [], false⟩,
 ⟨some 11, .fieldAddr 46 (.tmp 1) 6, some (some 10, true), false, [], false⟩,
 ⟨some 12, .load 9 (.tmp 11), some (some 10, true), false, [], false⟩,
 ⟨some 13, .call ⟨.value (.func 205), #[.tmp 12, .const (.string ⟨#[32]⟩)], #[9, 9]⟩, some (some 10, true), false, [], false⟩,
 ⟨some 14, .unOp .not 4 (.tmp 13), some (some 10, true), false, [], false⟩,
 ⟨some 15, .pick (.tmp 10) (.tmp 14) (.const (.bool false)), none, false, [], false⟩,
 ⟨some 16, .move (.tmp 15), none, false, [], false⟩,
 ⟨some 17, .fieldAddr 46 (.tmp 1) 6, some (some 16, true), false, [], false⟩,
 ⟨some 18, .load 9 (.tmp 17), some (some 16, true), false, [], false⟩,
 ⟨some 19, .binOp .add 9 (.const (.string ⟨#[32]⟩)) (.tmp 18) 9, some (some 16, true), false, [], false⟩,
 ⟨some 20, .binOp .add 9 (.tmp 19) (.const (.string ⟨#[32]⟩)) 9, some (some 16, true), false, [], false⟩,
 ⟨some 21, .call ⟨.value (.func 205), #[.const (.string ⟨#[32, 43, 32, 45, 32, 42, 32, 47, 32, 37, 32, 38, 32, 124, 32, 94, 32, 60, 60, 32, 62, 62, 32, 61, 61, 32, 33, 61, 32, 60, 32, 60, 61, 32, 62, 32, 62, 61, 32]⟩), .tmp 20], #[9, 9]⟩, some (some 16, true), false, [], false⟩,
 ⟨some 22, .pick (.tmp 16) (.tmp 21) (.const (.bool false)), none, false, [], false⟩,
 ⟨some 2, .assign (.tmp 22), none, false, [], false⟩])
 .ret)
 (.seq (.reg false [⟨some 24, .binOp .eql 3 (.tmp 4) (.const (.int .i64 4)) 3, none, false, [], false⟩,
 ⟨some 23, .assign (.tmp 24), none, false, [], false⟩])
 (.cond (.tmp 23)
 (.seq (.reg false [⟨some 25, .fieldAddr 46 (.tmp 1) 1, none, false, [], false⟩,
 ⟨some 26, .load 3 (.tmp 25), none, false, [], false⟩,
 ⟨some 27, .binOp .geq 3 (.tmp 26) (.const (.int .i64 1)) 3, none, false, [], false⟩,
 ⟨some 28, .move (.tmp 27), none, false, [], false⟩,
 ⟨some 29, .fieldAddr 46 (.tmp 1) 1, some (some 28, true), false, [], false⟩,
 ⟨some 30, .load 3 (.tmp 29), some (some 28, true), false, [], false⟩,
 ⟨some 31, .binOp .leq 3 (.tmp 30) (.const (.int .i64 3)) 3, some (some 28, true), false, [], false⟩,
 ⟨some 32, .pick (.tmp 28) (.tmp 31) (.const (.bool false)), none, false, [], false⟩,
 ⟨some 2, .assign (.tmp 32), none, false, [], false⟩])
 .ret)
 .skip))))))
 (.seq (.reg false [⟨some 33, .fieldAddr 46 (.tmp 1) 0, none, false, [], false⟩,
 ⟨some 34, .load 3 (.tmp 33), none, false, [], false⟩,
 ⟨some 35, .binOp .geq 3 (.tmp 34) (.const (.int .i64 1)) 3, none, false, [], false⟩,
 ⟨some 36, .move (.tmp 35), none, false, [], false⟩,
 ⟨some 37, .fieldAddr 46 (.tmp 1) 0, some (some 36, true), false, [], false⟩,
 ⟨some 38, .load 3 (.tmp 37), some (some 36, true), false, [], false⟩,
 ⟨some 39, .binOp .leq 3 (.tmp 38) (.const (.int .i64 11)) 3, some (some 36, true), false, [], false⟩,
 ⟨some 40, .pick (.tmp 36) (.tmp 39) (.const (.bool false)), none, false, [], false⟩,
 ⟨some 2, .assign (.tmp 40), none, false, [], false⟩])
 .ret)))
noncomputable def fi176 : FI := ⟨c176, 41, [.tmp 2], .plain⟩
noncomputable def c177 : XC :=
 (.seq (.reg false [⟨some 2, .box 107 (.tmp 0), none, false, [], false⟩,
 ⟨some 3, .box 46 (.tmp 1), none, false, [], false⟩,
 ⟨some 4, .assign (.const (.bool false)), none, false, [], false⟩])
 (.seq (.seq
 (.reg false [⟨some 8, .load 46 (.tmp 3), none, false, [], false⟩,
 ⟨some 9, .call ⟨.value (.func 131), #[.tmp 8], #[46]⟩, none, false, [], false⟩,
 ⟨some 10, .call ⟨.builtin .len, #[.tmp 9], #[22]⟩, none, false, [], false⟩,
 ⟨some 11, .move (.const (.int .i64 0)), none, false, [], false⟩])
 (.block 0
 (.loop (.seq (.reg false [⟨some 12, .binOp .lss 3 (.tmp 11) (.tmp 10) 3, none, false, [], false⟩])
 (.seq (.cond (.tmp 12)
 .skip
 (.exit 0))
 (.seq (.block 1
 (.seq (.reg false [⟨some 13, .indexAddr 22 (.tmp 9) (.tmp 11), none, false, [], false⟩,
 ⟨some 14, .load 3 (.tmp 13), none, false, [], false⟩,
 ⟨some 6, .assign (.tmp 14), none, false, [], false⟩])
 (.seq (.reg false [⟨some 15, .move (.tmp 6), none, false, [], false⟩,
 ⟨some 16, .fieldAddr 107 (.tmp 2) 1, none, false, [], false⟩,
 ⟨some 17, .fieldAddr 25 (.tmp 16) 3, none, false, [], false⟩,
 ⟨some 18, .load 22 (.tmp 17), none, false, [], false⟩,
 ⟨some 19, .call ⟨.builtin .len, #[.tmp 18], #[22]⟩, none, false, [], false⟩,
 ⟨some 20, .call ⟨.value (.func 179), #[.tmp 15, .tmp 19], #[3, 3]⟩, none, false, [], false⟩,
 ⟨some 21, .unOp .not 4 (.tmp 20), none, false, [], false⟩])
 (.cond (.tmp 21)
 (.seq (.reg false [⟨some 4, .assign (.const (.bool false)), none, false, [], false⟩])
 .ret)
 .skip))))
 (.reg false [⟨some 22, .binOp .add 3 (.tmp 11) (.const (.int .i64 1)) 3, none, false, [], false⟩,
 ⟨some 11, .move (.tmp 22), none, false, [], false⟩])))))))
 (.seq (.seq
 (.reg false [⟨some 23, .load 46 (.tmp 3), none, false, [], false⟩,
 ⟨some 24, .call ⟨.value (.func 80), #[.tmp 23], #[46]⟩, none, false, [], false⟩,
 ⟨some 7, .assign (.tmp 24), none, false, [], false⟩])
 (.seq (.reg false [⟨some 25, .fieldAddr 46 (.tmp 3) 0, none, false, [], false⟩,
 ⟨some 26, .load 3 (.tmp 25), none, false, [], false⟩,
 ⟨some 27, .binOp .neq 3 (.tmp 26) (.const (.int .i64 9)) 3, none, false, [], false⟩,
 ⟨some 28, .move (.tmp 27), none, false, [], false⟩,
 ⟨some 29, .move (.tmp 7), some (some 28, false), false, [], false⟩,
 ⟨some 30, .binOp .geq 3 (.tmp 29) (.const (.int .i64 0)) 3, some (some 28, false), false, [], false⟩,
 ⟨some 31, .pick (.tmp 28) (.const (.bool true)) (.tmp 30), none, false, [], false⟩,
 ⟨some 32, .move (.tmp 31), none, false, [], false⟩,
 ⟨some 33, .move (.tmp 7), some (some 32, true), false, [], false⟩,
 ⟨some 34, .binOp .neq 3 (.tmp 33) (.const (.int .i64 (-1))) 3, some (some 32, true), false, [], false⟩,
 ⟨some 35, .pick (.tmp 32) (.tmp 34) (.const (.bool false)), none, false, [], false⟩,
 ⟨some 36, .move (.tmp 35), none, false, [], false⟩,
 ⟨some 37, .move (.tmp 7), some (some 36, true), false, [], false⟩,
 ⟨some 38, .fieldAddr 107 (.tmp 2) 1, some (some 36, true), false, [], false⟩,
 ⟨some 39, .fieldAddr 25 (.tmp 38) 3, some (some 36, true), false, [], false⟩,
 ⟨some 40, .load 22 (.tmp 39), some (some 36, true), false, [], false⟩,
 ⟨some 41, .call ⟨.builtin .len, #[.tmp 40], #[22]⟩, some (some 36, true), false, [], false⟩,
 ⟨some 42, .call ⟨.value (.func 179), #[.tmp 37, .tmp 41], #[3, 3]⟩, some (some 36, true), false, [], false⟩,
 ⟨some 43, .unOp .not 4 (.tmp 42), some (some 36, true), false, [], false⟩,
 ⟨some 44, .pick (.tmp 36) (.tmp 43) (.const (.bool false)), none, false, [], false⟩])
 (.cond (.tmp 44)
 (.seq (.reg false [⟨some 4, .assign (.const (.bool false)), none, false, [], false⟩])
 .ret)
 .skip)))
 (.seq (.seq
 (.reg false [⟨some 45, .buildSlice 22 7 #[(0, .const (.int .i64 1)), (1, .const (.int .i64 2)), (2, .const (.int .i64 3)), (3, .const (.int .i64 4)), (4, .const (.int .i64 5)), (5, .const (.int .i64 7)), (6, .const (.int .i64 10))], none, false, [], false⟩,
 ⟨some 46, .fieldAddr 46 (.tmp 3) 0, none, false, [], false⟩,
 ⟨some 47, .load 3 (.tmp 46), none, false, [], false⟩,
 ⟨some 48, .call ⟨.value (.func 206), #[.tmp 45, .tmp 47], #[22, 3]⟩, none, false, [], false⟩,
 ⟨some 49, .move (.tmp 48), none, false, [], false⟩,
 ⟨some 50, .fieldAddr 46 (.tmp 3) 2, some (some 49, true), false, [], false⟩,
 ⟨some 51, .load 3 (.tmp 50), some (some 49, true), false, [], false⟩,
 ⟨some 52, .binOp .lss 3 (.tmp 51) (.const (.int .i64 0)) 3, some (some 49, true), false, [], false⟩,
 ⟨some 53, .pick (.tmp 49) (.tmp 52) (.const (.bool false)), none, false, [], false⟩])
 (.cond (.tmp 53)
 (.seq (.reg false [⟨some 4, .assign (.const (.bool false)), none, false, [], false⟩])
 .ret)
 .skip))
 (.seq (.seq
 (.reg false [⟨some 54, .fieldAddr 46 (.tmp 3) 0, none, false, [], false⟩,
 ⟨some 55, .load 3 (.tmp 54), none, false, [], false⟩])
 (.block 2
 (.seq (.reg false [⟨some 57, .binOp .eql 3 (.tmp 55) (.const (.int .i64 1)) 3, none, false, [], false⟩,
 ⟨some 56, .assign (.tmp 57), none, false, [], false⟩])
 (.cond (.tmp 56)
 (.seq (.reg true [⟨some 58, .fieldAddr 107 (.tmp 2) 1, none, false, [], false⟩,
 ⟨some 59, .fieldAddr 25 (.tmp 58) 3, none, false, [], false⟩,
 ⟨some 60, .load 22 (.tmp 59), none, false, [], false⟩,
 ⟨some 61, .fieldAddr 46 (.tmp 3) 2, none, false, [], false⟩,
 ⟨some 62, .load 3 (.tmp 61), none, false, [], false⟩,
 ⟨some 63, .indexAddr 22 (.tmp 60) (.tmp 62), none, false, [], false⟩,
 ⟨some 64, .load 3 (.tmp 63), none, false, [], false⟩,
 ⟨some 65, .fieldAddr 46 (.tmp 3) 5, none, false, [], false⟩,
 ⟨some 66, .load 3 (.tmp 65), none, false, [], false⟩,
 ⟨some 67, .call ⟨.value (.func 195), #[.tmp 64, .tmp 66], #[3, 3]⟩, none, true, [false, false, true, true], false⟩,
 ⟨some 68, .fieldAddr 46 (.tmp 3) 5, none, false, [], false⟩,
 ⟨some 69, .load 3 (.tmp 68), none, false, [], true⟩,
 ⟨some 70, .binOp .eql 3 (.tmp 67) (.tmp 69) 3, none, false, [], false⟩,
 ⟨some 4, .assign (.tmp 70), none, false, [], false⟩])
 .ret)
 (.seq (.seq
 (.reg false [⟨some 72, .binOp .eql 3 (.tmp 55) (.const (.int .i64 5)) 3, none, false, [], false⟩,
 ⟨some 71, .assign (.tmp 72), none, false, [], false⟩])
 (.cond (.tmp 71)
 .skip
 (.reg false [⟨some 73, .binOp .eql 3 (.tmp 55) (.const (.int .i64 6)) 3, none, false, [], false⟩,
 ⟨some 71, .assign (.tmp 73), none, false, [], false⟩])))
 (.cond (.tmp 71)
 (.seq (.reg false [⟨some 74, .load 107 (.tmp 2), none, false, [], false⟩,
 ⟨some 75, .fieldAddr 46 (.tmp 3) 5, none, false, [], false⟩,
 ⟨some 76, .load 3 (.tmp 75), none, false, [], false⟩,
 ⟨some 77, .call ⟨.value (.func 207), #[.tmp 74, .tmp 76, .const (.bool true)], #[107, 3, 4]⟩, none, false, [], false⟩,
 ⟨some 4, .assign (.tmp 77), none, false, [], false⟩])
 .ret)
 (.seq (.seq
 (.reg false [⟨some 79, .binOp .eql 3 (.tmp 55) (.const (.int .i64 7)) 3, none, false, [], false⟩,
 ⟨some 78, .assign (.tmp 79), none, false, [], false⟩])
 (.cond (.tmp 78)
 .skip
 (.reg false [⟨some 80, .binOp .eql 3 (.tmp 55) (.const (.int .i64 8)) 3, none, false, [], false⟩,
 ⟨some 78, .assign (.tmp 80), none, false, [], false⟩])))
 (.cond (.tmp 78)
 (.seq (.reg false [⟨some 81, .load 107 (.tmp 2), none, false, [], false⟩,
 ⟨some 82, .fieldAddr 46 (.tmp 3) 5, none, false, [], false⟩,
 ⟨some 83, .load 3 (.tmp 82), none, false, [], false⟩,
 ⟨some 84, .call ⟨.value (.func 207), #[.tmp 81, .tmp 83, .const (.bool false)], #[107, 3, 4]⟩, none, false, [], false⟩,
 ⟨some 4, .assign (.tmp 84), none, false, [], false⟩])
 .ret)
 (.seq (.reg false [⟨some 86, .binOp .eql 3 (.tmp 55) (.const (.int .i64 9)) 3, none, false, [], false⟩,
 ⟨some 85, .assign (.tmp 86), none, false, [], false⟩])
 (.cond (.tmp 85)
 (.seq (.reg true [⟨some 87, .fieldAddr 46 (.tmp 3) 5, none, false, [], false⟩,
 ⟨some 88, .load 3 (.tmp 87), none, false, [], false⟩,
 ⟨some 89, .fieldAddr 107 (.tmp 2) 0, none, false, [], false⟩,
 ⟨some 90, .fieldAddr 36 (.tmp 89) 1, none, false, [], false⟩,
 ⟨some 91, .load 33 (.tmp 90), none, false, [], false⟩,
 ⟨some 92, .call ⟨.builtin .len, #[.tmp 91], #[33]⟩, none, false, [], false⟩,
 ⟨some 93, .call ⟨.value (.func 179), #[.tmp 88, .tmp 92], #[3, 3]⟩, none, false, [true, true, true, true, true, true, true, true, true, true, true, true, true, true, true, true, true, true, true, true, true], false⟩,
 ⟨some 94, .move (.tmp 93), none, false, [], false⟩,
 ⟨some 95, .fieldAddr 107 (.tmp 2) 0, some (some 94, true), false, [], false⟩,
 ⟨some 96, .fieldAddr 36 (.tmp 95) 1, some (some 94, true), false, [], false⟩,
 ⟨some 97, .load 33 (.tmp 96), some (some 94, true), false, [], false⟩,
 ⟨some 98, .fieldAddr 46 (.tmp 3) 5, some (some 94, true), false, [], false⟩,
 ⟨some 99, .load 3 (.tmp 98), some (some 94, true), false, [], false⟩,
 ⟨some 100, .indexAddr 33 (.tmp 97) (.tmp 99), some (some 94, true), false, [], false⟩,
 ⟨some 101, .fieldAddr 25 (.tmp 100) 3, some (some 94, true), false, [], false⟩,
 ⟨some 102, .load 22 (.tmp 101), some (some 94, true), false, [], false⟩,
 ⟨some 103, .call ⟨.builtin .len, #[.tmp 102], #[22]⟩, some (some 94, true), false, [], false⟩,
 ⟨some 104, .fieldAddr 107 (.tmp 2) 0, some (some 94, true), false, [], false⟩,
 ⟨some 105, .fieldAddr 36 (.tmp 104) 1, some (some 94, true), false, [], false⟩,
 ⟨some 106, .load 33 (.tmp 105), some (some 94, true), false, [], false⟩,
 ⟨some 107, .fieldAddr 46 (.tmp 3) 5, some (some 94, true), false, [], false⟩,
 ⟨some 108, .load 3 (.tmp 107), some (some 94, true), false, [], false⟩,
 ⟨some 109, .indexAddr 33 (.tmp 106) (.tmp 108), some (some 94, true), false, [], false⟩,
 ⟨some 110, .fieldAddr 25 (.tmp 109) 2, some (some 94, true), false, [], false⟩,
 ⟨some 111, .load 3 (.tmp 110), some (some 94, true), false, [], false⟩,
 ⟨some 112, .binOp .geq 3 (.tmp 103) (.tmp 111) 3, some (some 94, true), false, [], false⟩,
 ⟨some 113, .pick (.tmp 94) (.tmp 112) (.const (.bool false)), none, false, [], false⟩,
 ⟨some 4, .assign (.tmp 113), none, false, [], false⟩])
 .ret)
 .skip))))))))))
 (.seq (.reg false [⟨some 4, .assign (.const (.bool true)), none, false, [], false⟩])
 .ret))))))
noncomputable def fi177 : FI := ⟨c177, 114, [.tmp 4], .plain⟩
noncomputable def c178 : XC :=
 (.seq (.reg false [⟨some 2, .box 107 (.tmp 0), none, false, [], false⟩,
 ⟨some 3, .box 46 (.tmp 1), none, false, [], false⟩,
 ⟨some 4, .assign (.const (.bool false)), none, false, [], false⟩])
 (.seq (.reg false [⟨some 7, .makeFunc (.func 208) #[] #[.tmp 2], none, false, [], false⟩,
 ⟨some 5, .assign (.tmp 7), none, false, [], false⟩])
 (.seq (.seq
 (.reg false [⟨some 8, .fieldAddr 46 (.tmp 3) 0, none, false, [], false⟩,
 ⟨some 9, .load 3 (.tmp 8), none, false, [], false⟩])
 (.block 0
 (.seq (.reg false [⟨some 11, .binOp .eql 3 (.tmp 9) (.const (.int .i64 2)) 3, none, false, [], false⟩,
 ⟨some 10, .assign (.tmp 11), none, false, [], false⟩])
 (.cond (.tmp 10)
 (.seq (.reg true [⟨some 12, .move (.tmp 5), none, false, [], false⟩,
 ⟨some 13, .fieldAddr 46 (.tmp 3) 3, none, false, [], false⟩,
 ⟨some 14, .load 3 (.tmp 13), none, false, [], false⟩,
 ⟨some 15, .fieldAddr 107 (.tmp 2) 1, none, false, [], false⟩,
 ⟨some 16, .fieldAddr 25 (.tmp 15) 3, none, false, [], false⟩,
 ⟨some 17, .load 22 (.tmp 16), none, false, [], false⟩,
 ⟨some 18, .fieldAddr 46 (.tmp 3) 2, none, false, [], false⟩,
 ⟨some 19, .load 3 (.tmp 18), none, false, [], false⟩,
 ⟨some 20, .indexAddr 22 (.tmp 17) (.tmp 19), none, false, [], false⟩,
 ⟨some 21, .load 3 (.tmp 20), none, false, [], false⟩,
 ⟨some 22, .call ⟨.value (.tmp 12), #[.tmp 14, .tmp 21], #[3, 3]⟩, none, false, [true], false⟩,
 ⟨some 4, .assign (.tmp 22), none, false, [], false⟩])
 .ret)
 (.seq (.reg false [⟨some 24, .binOp .eql 3 (.tmp 9) (.const (.int .i64 3)) 3, none, false, [], false⟩,
 ⟨some 23, .assign (.tmp 24), none, false, [], false⟩])
 (.cond (.tmp 23)
 (.seq (.reg false [⟨some 25, .fieldAddr 46 (.tmp 3) 1, none, false, [], false⟩,
 ⟨some 26, .load 3 (.tmp 25), none, false, [], false⟩,
 ⟨some 6, .assign (.tmp 26), none, false, [], false⟩])
 (.seq (.seq
 (.reg false [⟨some 27, .fieldAddr 46 (.tmp 3) 6, none, false, [], false⟩,
 ⟨some 28, .load 9 (.tmp 27), none, false, [], false⟩,
 ⟨some 29, .binOp .add 9 (.const (.string ⟨#[32]⟩)) (.tmp 28) 9, none, false, [], false⟩,
 ⟨some 30, .binOp .add 9 (.tmp 29) (.const (.string ⟨#[32]⟩)) 9, none, false, [], false⟩,
 ⟨some 31, .call ⟨.value (.func 205), #[.const (.string ⟨#[32, 61, 61, 32, 33, 61, 32, 60, 32, 60, 61, 32, 62, 32, 62, 61, 32]⟩), .tmp 30], #[9, 9]⟩, none, false, [], false⟩])
 (.cond (.tmp 31)
 (.reg false [⟨some 6, .assign (.const (.int .i64 1)), none, false, [], false⟩])
 .skip))
 (.seq (.reg false [⟨some 32, .move (.tmp 5), none, false, [], false⟩,
 ⟨some 33, .fieldAddr 46 (.tmp 3) 3, none, false, [], false⟩,
 ⟨some 34, .load 3 (.tmp 33), none, false, [], false⟩,
 ⟨some 35, .fieldAddr 46 (.tmp 3) 1, none, false, [], false⟩,
 ⟨some 36, .load 3 (.tmp 35), none, false, [], false⟩,
 ⟨some 37, .call ⟨.value (.tmp 32), #[.tmp 34, .tmp 36], #[3, 3]⟩, none, false, [], false⟩,
 ⟨some 38, .move (.tmp 37), none, false, [], false⟩,
 ⟨some 39, .move (.tmp 5), some (some 38, true), false, [], false⟩,
 ⟨some 40, .fieldAddr 46 (.tmp 3) 4, some (some 38, true), false, [], false⟩,
 ⟨some 41, .load 3 (.tmp 40), some (some 38, true), false, [], false⟩,
 ⟨some 42, .fieldAddr 46 (.tmp 3) 1, some (some 38, true), false, [], false⟩,
 ⟨some 43, .load 3 (.tmp 42), some (some 38, true), false, [], false⟩,
 ⟨some 44, .call ⟨.value (.tmp 39), #[.tmp 41, .tmp 43], #[3, 3]⟩, some (some 38, true), false, [], false⟩,
 ⟨some 45, .pick (.tmp 38) (.tmp 44) (.const (.bool false)), none, false, [], false⟩,
 ⟨some 46, .move (.tmp 45), none, false, [], false⟩,
 ⟨some 47, .move (.tmp 5), some (some 46, true), false, [], false⟩,
 ⟨some 48, .fieldAddr 46 (.tmp 3) 2, some (some 46, true), false, [], false⟩,
 ⟨some 49, .load 3 (.tmp 48), some (some 46, true), false, [], false⟩,
 ⟨some 50, .move (.tmp 6), some (some 46, true), false, [], false⟩,
 ⟨some 51, .call ⟨.value (.tmp 47), #[.tmp 49, .tmp 50], #[3, 3]⟩, some (some 46, true), false, [], false⟩,
 ⟨some 52, .pick (.tmp 46) (.tmp 51) (.const (.bool false)), none, false, [], false⟩,
 ⟨some 4, .assign (.tmp 52), none, false, [], false⟩])
 .ret)))
 (.seq (.reg false [⟨some 54, .binOp .eql 3 (.tmp 9) (.const (.int .i64 4)) 3, none, false, [], false⟩,
 ⟨some 53, .assign (.tmp 54), none, false, [], false⟩])
 (.cond (.tmp 53)
 (.seq (.reg true [⟨some 58, .fieldAddr 46 (.tmp 3) 1, none, false, [], false⟩,
 ⟨some 59, .load 3 (.tmp 58), none, false, [], false⟩,
 ⟨some 60, .call ⟨.value (.func 209), #[.tmp 59], #[3]⟩, none, true, [false, false, false, true, true], false⟩,
 ⟨some 55, .move (.tmp 5), none, false, [], false⟩,
 ⟨some 56, .fieldAddr 46 (.tmp 3) 2, none, false, [], false⟩,
 ⟨some 57, .load 3 (.tmp 56), none, false, [], true⟩,
 ⟨some 61, .call ⟨.value (.tmp 55), #[.tmp 57, .tmp 60], #[3, 3]⟩, none, false, [true], false⟩,
 ⟨some 4, .assign (.tmp 61), none, false, [], false⟩])
 .ret)
 (.seq (.reg false [⟨some 63, .binOp .eql 3 (.tmp 9) (.const (.int .i64 5)) 3, none, false, [], false⟩,
 ⟨some 62, .assign (.tmp 63), none, false, [], false⟩])
 (.cond (.tmp 62)
 (.seq (.reg true [⟨some 64, .move (.tmp 5), none, false, [], false⟩,
 ⟨some 65, .fieldAddr 46 (.tmp 3) 3, none, false, [], false⟩,
 ⟨some 66, .load 3 (.tmp 65), none, false, [], false⟩,
 ⟨some 67, .call ⟨.value (.tmp 64), #[.tmp 66, .const (.int .i64 2)], #[3, 3]⟩, none, false, [true, true, true, true, true, true, true, true, true, true, true, true, true, true, true, true], false⟩,
 ⟨some 68, .move (.tmp 67), none, false, [], false⟩,
 ⟨some 72, .fieldAddr 107 (.tmp 2) 0, some (some 68, true), false, [], false⟩,
 ⟨some 73, .fieldAddr 36 (.tmp 72) 0, some (some 68, true), false, [], false⟩,
 ⟨some 74, .load 34 (.tmp 73), some (some 68, true), false, [], false⟩,
 ⟨some 75, .fieldAddr 46 (.tmp 3) 5, some (some 68, true), false, [], false⟩,
 ⟨some 76, .load 3 (.tmp 75), some (some 68, true), false, [], false⟩,
 ⟨some 77, .indexAddr 34 (.tmp 74) (.tmp 76), some (some 68, true), false, [], false⟩,
 ⟨some 78, .fieldAddr 105 (.tmp 77) 1, some (some 68, true), false, [], false⟩,
 ⟨some 79, .load 3 (.tmp 78), some (some 68, true), false, [], false⟩,
 ⟨some 80, .call ⟨.value (.func 209), #[.tmp 79], #[3]⟩, some (some 68, true), true, [false, false, false, true, true, true], false⟩,
 ⟨some 69, .move (.tmp 5), some (some 68, true), false, [], false⟩,
 ⟨some 70, .fieldAddr 46 (.tmp 3) 2, some (some 68, true), false, [], false⟩,
 ⟨some 71, .load 3 (.tmp 70), some (some 68, true), false, [], true⟩,
 ⟨some 81, .call ⟨.value (.tmp 69), #[.tmp 71, .tmp 80], #[3, 3]⟩, some (some 68, true), false, [true, true], false⟩,
 ⟨some 82, .pick (.tmp 68) (.tmp 81) (.const (.bool false)), none, false, [], false⟩,
 ⟨some 4, .assign (.tmp 82), none, false, [], false⟩])
 .ret)
 (.seq (.reg false [⟨some 84, .binOp .eql 3 (.tmp 9) (.const (.int .i64 6)) 3, none, false, [], false⟩,
 ⟨some 83, .assign (.tmp 84), none, false, [], false⟩])
 (.cond (.tmp 83)
 (.seq (.reg true [⟨some 85, .move (.tmp 5), none, false, [], false⟩,
 ⟨some 86, .fieldAddr 46 (.tmp 3) 3, none, false, [], false⟩,
 ⟨some 87, .load 3 (.tmp 86), none, false, [], false⟩,
 ⟨some 88, .call ⟨.value (.tmp 85), #[.tmp 87, .const (.int .i64 2)], #[3, 3]⟩, none, false, [true, true, true, true, true, true, true, true, true, true, true, true, true, true, true, true], false⟩,
 ⟨some 89, .move (.tmp 88), none, false, [], false⟩,
 ⟨some 93, .fieldAddr 107 (.tmp 2) 0, some (some 89, true), false, [], false⟩,
 ⟨some 94, .fieldAddr 36 (.tmp 93) 0, some (some 89, true), false, [], false⟩,
 ⟨some 95, .load 34 (.tmp 94), some (some 89, true), false, [], false⟩,
 ⟨some 96, .fieldAddr 46 (.tmp 3) 5, some (some 89, true), false, [], false⟩,
 ⟨some 97, .load 3 (.tmp 96), some (some 89, true), false, [], false⟩,
 ⟨some 98, .indexAddr 34 (.tmp 95) (.tmp 97), some (some 89, true), false, [], false⟩,
 ⟨some 99, .fieldAddr 105 (.tmp 98) 1, some (some 89, true), false, [], false⟩,
 ⟨some 100, .load 3 (.tmp 99), some (some 89, true), false, [], false⟩,
 ⟨some 101, .call ⟨.value (.func 209), #[.tmp 100], #[3]⟩, some (some 89, true), true, [false, false, false, true, true, true], false⟩,
 ⟨some 90, .move (.tmp 5), some (some 89, true), false, [], false⟩,
 ⟨some 91, .fieldAddr 46 (.tmp 3) 4, some (some 89, true), false, [], false⟩,
 ⟨some 92, .load 3 (.tmp 91), some (some 89, true), false, [], true⟩,
 ⟨some 102, .call ⟨.value (.tmp 90), #[.tmp 92, .tmp 101], #[3, 3]⟩, some (some 89, true), false, [true, true], false⟩,
 ⟨some 103, .pick (.tmp 89) (.tmp 102) (.const (.bool false)), none, false, [], false⟩,
 ⟨some 4, .assign (.tmp 103), none, false, [], false⟩])
 .ret)
 (.seq (.reg false [⟨some 105, .binOp .eql 3 (.tmp 9) (.const (.int .i64 7)) 3, none, false, [], false⟩,
 ⟨some 104, .assign (.tmp 105), none, false, [], false⟩])
 (.cond (.tmp 104)
 (.seq (.reg true [⟨some 106, .move (.tmp 5), none, false, [], false⟩,
 ⟨some 107, .fieldAddr 46 (.tmp 3) 2, none, false, [], false⟩,
 ⟨some 108, .load 3 (.tmp 107), none, false, [], false⟩,
 ⟨some 109, .fieldAddr 107 (.tmp 2) 0, none, false, [], false⟩,
 ⟨some 110, .fieldAddr 36 (.tmp 109) 0, none, false, [], false⟩,
 ⟨some 111, .load 34 (.tmp 110), none, false, [], false⟩,
 ⟨some 112, .fieldAddr 46 (.tmp 3) 5, none, false, [], false⟩,
 ⟨some 113, .load 3 (.tmp 112), none, false, [], false⟩,
 ⟨some 114, .indexAddr 34 (.tmp 111) (.tmp 113), none, false, [], false⟩,
 ⟨some 115, .fieldAddr 105 (.tmp 114) 1, none, false, [], false⟩,
 ⟨some 116, .load 3 (.tmp 115), none, false, [], false⟩,
 ⟨some 117, .call ⟨.value (.tmp 106), #[.tmp 108, .tmp 116], #[3, 3]⟩, none, false, [true], false⟩,
 ⟨some 4, .assign (.tmp 117), none, false, [], false⟩])
 .ret)
 (.seq (.reg false [⟨some 119, .binOp .eql 3 (.tmp 9) (.const (.int .i64 8)) 3, none, false, [], false⟩,
 ⟨some 118, .assign (.tmp 119), none, false, [], false⟩])
 (.cond (.tmp 118)
 (.seq (.reg true [⟨some 120, .move (.tmp 5), none, false, [], false⟩,
 ⟨some 121, .fieldAddr 46 (.tmp 3) 3, none, false, [], false⟩,
 ⟨some 122, .load 3 (.tmp 121), none, false, [], false⟩,
 ⟨some 123, .fieldAddr 107 (.tmp 2) 0, none, false, [], false⟩,
 ⟨some 124, .fieldAddr 36 (.tmp 123) 0, none, false, [], false⟩,
 ⟨some 125, .load 34 (.tmp 124), none, false, [], false⟩,
 ⟨some 126, .fieldAddr 46 (.tmp 3) 5, none, false, [], false⟩,
 ⟨some 127, .load 3 (.tmp 126), none, false, [], false⟩,
 ⟨some 128, .indexAddr 34 (.tmp 125) (.tmp 127), none, false, [], false⟩,
 ⟨some 129, .fieldAddr 105 (.tmp 128) 1, none, false, [], false⟩,
 ⟨some 130, .load 3 (.tmp 129), none, false, [], false⟩,
 ⟨some 131, .call ⟨.value (.tmp 120), #[.tmp 122, .tmp 130], #[3, 3]⟩, none, false, [true], false⟩,
 ⟨some 4, .assign (.tmp 131), none, false, [], false⟩])
 .ret)
 (.seq (.reg false [⟨some 133, .binOp .eql 3 (.tmp 9) (.const (.int .i64 9)) 3, none, false, [], false⟩,
 ⟨some 132, .assign (.tmp 133), none, false, [], false⟩])
 (.cond (.tmp 132)
 (.seq (.reg false [⟨some 134, .load 107 (.tmp 2), none, false, [], false⟩,
 ⟨some 135, .load 46 (.tmp 3), none, false, [], false⟩,
 ⟨some 136, .move (.tmp 5), none, false, [], false⟩,
 ⟨some 137, .call ⟨.value (.func 210), #[.tmp 134, .tmp 135, .tmp 136], #[107, 46, 183]⟩, none, false, [], false⟩,
 ⟨some 4, .assign (.tmp 137), none, false, [], false⟩])
 .ret)
 (.seq (.reg false [⟨some 139, .binOp .eql 3 (.tmp 9) (.const (.int .i64 10)) 3, none, false, [], false⟩,
 ⟨some 138, .assign (.tmp 139), none, false, [], false⟩])
 (.cond (.tmp 138)
 (.seq (.reg false [⟨some 140, .move (.tmp 5), none, false, [], false⟩,
 ⟨some 141, .fieldAddr 46 (.tmp 3) 2, none, false, [], false⟩,
 ⟨some 142, .load 3 (.tmp 141), none, false, [], false⟩,
 ⟨some 143, .call ⟨.value (.tmp 140), #[.tmp 142, .const (.int .i64 2)], #[3, 3]⟩, none, false, [], false⟩,
 ⟨some 4, .assign (.tmp 143), none, false, [], false⟩])
 .ret)
 (.seq (.reg false [⟨some 145, .binOp .eql 3 (.tmp 9) (.const (.int .i64 11)) 3, none, false, [], false⟩,
 ⟨some 144, .assign (.tmp 145), none, false, [], false⟩])
 (.cond (.tmp 144)
 (.seq (.reg false [⟨some 146, .move (.tmp 5), none, false, [], false⟩,
 ⟨some 147, .fieldAddr 46 (.tmp 3) 3, none, false, [], false⟩,
 ⟨some 148, .load 3 (.tmp 147), none, false, [], false⟩,
 ⟨some 149, .call ⟨.value (.tmp 146), #[.tmp 148, .const (.int .i64 2)], #[3, 3]⟩, none, false, [], false⟩,
 ⟨some 4, .assign (.tmp 149), none, false, [], false⟩])
 .ret)
 .skip))))))))))))))))))))))
 (.seq (.reg false [⟨some 4, .assign (.const (.bool true)), none, false, [], false⟩])
 .ret))))
noncomputable def fi178 : FI := ⟨c178, 150, [.tmp 4], .plain⟩
noncomputable def c179 : XC :=
 (.seq (.reg false [⟨some 4, .assign (.const (.bool false)), none, false, [], false⟩])
 (.seq (.reg false [⟨some 5, .move (.tmp 0), none, false, [], false⟩,
 ⟨some 6, .binOp .geq 3 (.tmp 5) (.const (.int .i64 0)) 3, none, false, [], false⟩,
 ⟨some 7, .move (.tmp 6), none, false, [], false⟩,
 ⟨some 8, .move (.tmp 0), some (some 7, true), false, [], false⟩,
 ⟨some 9, .move (.tmp 1), some (some 7, true), false, [], false⟩,
 ⟨some 10, .binOp .lss 3 (.tmp 8) (.tmp 9) 3, some (some 7, true), false, [], false⟩,
 ⟨some 11, .pick (.tmp 7) (.tmp 10) (.const (.bool false)), none, false, [], false⟩,
 ⟨some 4, .assign (.tmp 11), none, false, [], false⟩])
 .ret))
noncomputable def fi179 : FI := ⟨c179, 12, [.tmp 4], .plain⟩
noncomputable def c189 : XC :=
 (.seq (.reg false [⟨some 1, .box 46 (.tmp 0), none, false, [], false⟩,
 ⟨some 2, .alloc 46, none, false, [], false⟩])
 (.seq (.reg false [⟨some 3, .fieldAddr 46 (.tmp 1) 7, none, false, [], false⟩,
 ⟨some 4, .load 22 (.tmp 3), none, false, [], false⟩,
 ⟨some 5, .call ⟨.value (.func 109), #[.tmp 4], #[22]⟩, none, false, [], false⟩,
 ⟨some 6, .fieldAddr 46 (.tmp 1) 7, none, false, [], false⟩,
 ⟨none, .store 22 (.tmp 6) (.tmp 5), none, false, [], false⟩])
 (.seq (.reg false [⟨some 7, .load 46 (.tmp 1), none, false, [], false⟩,
 ⟨none, .store 46 (.tmp 2) (.tmp 7), none, false, [], false⟩])
 .ret)))
noncomputable def fi189 : FI := ⟨c189, 8, [.cell 2 46], .plain⟩
noncomputable def c194 : XC :=
 (.seq (.reg false [⟨some 8, .assign (.const (.int .i64 0)), none, false, [], false⟩,
 ⟨some 9, .assign (.const (.int .i64 0)), none, false, [], false⟩])
 (.seq (.seq
 (.reg false [⟨some 10, .move (.tmp 0), none, false, [], false⟩])
 (.block 0
 (.seq (.reg false [⟨some 12, .binOp .eql 3 (.tmp 10) (.const (.int .i64 1)) 3, none, false, [], false⟩,
 ⟨some 11, .assign (.tmp 12), none, false, [], false⟩])
 (.cond (.tmp 11)
 (.seq (.reg false [⟨some 13, .move (.tmp 1), none, false, [], false⟩,
 ⟨some 14, .move (.tmp 2), none, false, [], false⟩,
 ⟨some 15, .convert 3 21 (.tmp 14), none, false, [], false⟩,
 ⟨some 16, .move (.tmp 3), none, false, [], false⟩,
 ⟨some 17, .convert 3 21 (.tmp 16), none, false, [], false⟩,
 ⟨some 18, .call ⟨.value (.func 215), #[.tmp 13, .tmp 15, .tmp 17, .const (.int .i64 32)], #[9, 21, 21, 3]⟩, none, false, [], false⟩,
 ⟨some 19, .extract (.tmp 18) 0, none, false, [], false⟩,
 ⟨some 20, .extract (.tmp 18) 1, none, false, [], false⟩,
 ⟨some 8, .assign (.tmp 19), none, false, [], false⟩,
 ⟨some 9, .assign (.tmp 20), none, false, [], false⟩])
 .ret)
 (.seq (.reg false [⟨some 22, .binOp .eql 3 (.tmp 10) (.const (.int .i64 2)) 3, none, false, [], false⟩,
 ⟨some 21, .assign (.tmp 22), none, false, [], false⟩])
 (.cond (.tmp 21)
 (.seq (.reg false [⟨some 23, .move (.tmp 1), none, false, [], false⟩,
 ⟨some 24, .move (.tmp 2), none, false, [], false⟩,
 ⟨some 25, .move (.tmp 3), none, false, [], false⟩,
 ⟨some 26, .call ⟨.value (.func 216), #[.tmp 23, .tmp 24, .tmp 25, .const (.int .i64 64)], #[9, 2, 2, 3]⟩, none, false, [], false⟩,
 ⟨some 27, .extract (.tmp 26) 0, none, false, [], false⟩,
 ⟨some 28, .extract (.tmp 26) 1, none, false, [], false⟩,
 ⟨some 8, .assign (.tmp 27), none, false, [], false⟩,
 ⟨some 9, .assign (.tmp 28), none, false, [], false⟩])
 .ret)
 .skip))))))
 (.seq (.reg false [⟨some 8, .assign (.const (.int .i64 0)), none, false, [], false⟩,
 ⟨some 9, .assign (.const (.int .i64 0)), none, false, [], false⟩])
 .ret)))
noncomputable def fi194 : FI := ⟨c194, 29, [.tmp 8, .tmp 9], .plain⟩
noncomputable def c195 : XC :=
 (.seq (.reg false [⟨some 4, .assign (.const (.int .i64 0)), none, false, [], false⟩])
 (.seq (.seq
 (.reg false [⟨some 5, .move (.tmp 0), none, false, [], false⟩])
 (.block 0
 (.seq (.reg false [⟨some 7, .binOp .eql 3 (.tmp 5) (.const (.int .i64 3)) 3, none, false, [], false⟩,
 ⟨some 6, .assign (.tmp 7), none, false, [], false⟩])
 (.cond (.tmp 6)
 (.seq (.reg false [⟨some 8, .move (.tmp 1), none, false, [], false⟩,
 ⟨some 9, .convert 3 210 (.tmp 8), none, false, [], false⟩,
 ⟨some 10, .convert 210 3 (.tmp 9), none, false, [], false⟩,
 ⟨some 4, .assign (.tmp 10), none, false, [], false⟩])
 .ret)
 (.seq (.reg false [⟨some 12, .binOp .eql 3 (.tmp 5) (.const (.int .i64 1)) 3, none, false, [], false⟩,
 ⟨some 11, .assign (.tmp 12), none, false, [], false⟩])
 (.cond (.tmp 11)
 (.seq (.reg false [⟨some 13, .move (.tmp 1), none, false, [], false⟩,
 ⟨some 14, .convert 3 21 (.tmp 13), none, false, [], false⟩,
 ⟨some 15, .convert 21 3 (.tmp 14), none, false, [], false⟩,
 ⟨some 4, .assign (.tmp 15), none, false, [], false⟩])
 .ret)
 (.seq (.reg false [⟨some 17, .binOp .eql 3 (.tmp 5) (.const (.int .i64 2)) 3, none, false, [], false⟩,
 ⟨some 16, .assign (.tmp 17), none, false, [], false⟩])
 (.cond (.tmp 16)
 (.seq (.reg false [⟨some 18, .move (.tmp 1), none, false, [], false⟩,
 ⟨some 4, .assign (.tmp 18), none, false, [], false⟩])
 .ret)
 .skip))))))))
 (.seq (.reg false [⟨some 4, .assign (.const (.int .i64 0)), none, false, [], false⟩])
 .ret)))
noncomputable def fi195 : FI := ⟨c195, 19, [.tmp 4], .plain⟩
noncomputable def c196 : XC :=
 (.seq (.reg false [⟨some 6, .assign (.const (.pointer none)), none, false, [], false⟩])
 (.seq (.seq
 (.reg false [⟨some 7, .move (.tmp 2), none, false, [], false⟩,
 ⟨some 8, .move (.tmp 0), none, false, [], false⟩,
 ⟨some 9, .nilCheck (.tmp 8), none, false, [], false⟩,
 ⟨some 10, .fieldAddr 116 (.tmp 9) 0, none, false, [], false⟩,
 ⟨some 11, .fieldAddr 36 (.tmp 10) 0, none, false, [], false⟩,
 ⟨some 12, .load 34 (.tmp 11), none, false, [], false⟩,
 ⟨some 13, .move (.tmp 1), none, false, [], false⟩,
 ⟨some 14, .indexAddr 34 (.tmp 12) (.tmp 13), none, false, [], false⟩,
 ⟨some 15, .fieldAddr 105 (.tmp 14) 2, none, false, [], false⟩,
 ⟨some 16, .load 3 (.tmp 15), none, false, [], false⟩,
 ⟨some 17, .call ⟨.value (.func 179), #[.tmp 7, .tmp 16], #[3, 3]⟩, none, false, [], false⟩,
 ⟨some 18, .unOp .not 4 (.tmp 17), none, false, [], false⟩])
 (.cond (.tmp 18)
 (.reg false [⟨some 19, .call ⟨.value (.func 154), #[.const (.int .i64 3)], #[3]⟩, none, false, [], false⟩])
 .skip))
 (.seq (.reg false [⟨some 20, .move (.tmp 0), none, false, [], false⟩,
 ⟨some 21, .nilCheck (.tmp 20), none, false, [], false⟩,
 ⟨some 22, .fieldAddr 116 (.tmp 21) 3, none, false, [], false⟩,
 ⟨some 23, .load 87 (.tmp 22), none, false, [], false⟩,
 ⟨some 24, .move (.tmp 1), none, false, [], false⟩,
 ⟨some 25, .indexAddr 87 (.tmp 23) (.tmp 24), none, false, [], false⟩,
 ⟨some 26, .load 22 (.tmp 25), none, false, [], false⟩,
 ⟨some 27, .move (.tmp 2), none, false, [], false⟩,
 ⟨some 28, .indexAddr 22 (.tmp 26) (.tmp 27), none, false, [], false⟩,
 ⟨some 6, .assign (.tmp 28), none, false, [], false⟩])
 .ret)))
noncomputable def fi196 : FI := ⟨c196, 29, [.tmp 6], .plain⟩
noncomputable def c197 : XC :=
 (.seq (.reg false [⟨some 2, .assign (.const (.int .i64 0)), none, false, [], false⟩])
 (.seq (.seq
 (.reg false [⟨some 4, .move (.tmp 0), none, false, [], false⟩,
 ⟨some 5, .nilCheck (.tmp 4), none, false, [], false⟩,
 ⟨some 6, .fieldAddr 116 (.tmp 5) 1, none, false, [], false⟩,
 ⟨some 7, .load 22 (.tmp 6), none, false, [], false⟩,
 ⟨some 8, .call ⟨.builtin .len, #[.tmp 7], #[22]⟩, none, false, [], false⟩,
 ⟨some 9, .binOp .eql 3 (.tmp 8) (.const (.int .i64 0)) 3, none, false, [], false⟩])
 (.cond (.tmp 9)
 (.seq (.reg false [⟨some 2, .assign (.const (.int .i64 0)), none, false, [], false⟩])
 .ret)
 .skip))
 (.seq (.reg false [⟨some 10, .move (.tmp 0), none, false, [], false⟩,
 ⟨some 11, .nilCheck (.tmp 10), none, false, [], false⟩,
 ⟨some 12, .fieldAddr 116 (.tmp 11) 1, none, false, [], false⟩,
 ⟨some 13, .load 22 (.tmp 12), none, false, [], false⟩,
 ⟨some 14, .indexAddr 22 (.tmp 13) (.const (.int .i64 0)), none, false, [], false⟩,
 ⟨some 15, .load 3 (.tmp 14), none, false, [], false⟩,
 ⟨some 3, .assign (.tmp 15), none, false, [], false⟩])
 (.seq (.reg false [⟨some 16, .move (.tmp 0), none, false, [], false⟩,
 ⟨some 17, .move (.tmp 0), none, false, [], false⟩,
 ⟨some 18, .nilCheck (.tmp 17), none, false, [], false⟩,
 ⟨some 19, .fieldAddr 116 (.tmp 18) 1, none, false, [], false⟩,
 ⟨some 20, .load 22 (.tmp 19), none, false, [], false⟩,
 ⟨some 21, .slice 22 (.tmp 20) (some (.const (.int .i64 1))) none none, none, false, [], false⟩,
 ⟨some 22, .nilCheck (.tmp 16), none, false, [], false⟩,
 ⟨some 23, .fieldAddr 116 (.tmp 22) 1, none, false, [], false⟩,
 ⟨none, .store 22 (.tmp 23) (.tmp 21), none, false, [], false⟩])
 (.seq (.reg false [⟨some 24, .move (.tmp 3), none, false, [], false⟩,
 ⟨some 2, .assign (.tmp 24), none, false, [], false⟩])
 .ret)))))
noncomputable def fi197 : FI := ⟨c197, 25, [.tmp 2], .plain⟩
noncomputable def c206 : XC :=
 (.seq (.reg false [⟨some 4, .assign (.const (.bool false)), none, false, [], false⟩])
 (.seq (.reg false [⟨some 5, .move (.tmp 0), none, false, [], false⟩,
 ⟨some 6, .move (.tmp 1), none, false, [], false⟩,
 ⟨some 7, .call ⟨.value (.func 222), #[.tmp 5, .tmp 6], #[22, 3]⟩, none, false, [], false⟩,
 ⟨some 8, .binOp .geq 3 (.tmp 7) (.const (.int .i64 0)) 3, none, false, [], false⟩,
 ⟨some 4, .assign (.tmp 8), none, false, [], false⟩])
 .ret))
noncomputable def fi206 : FI := ⟨c206, 9, [.tmp 4], .plain⟩
noncomputable def c207 : XC :=
 (.seq (.reg false [⟨some 3, .box 107 (.tmp 0), none, false, [], false⟩,
 ⟨some 6, .assign (.const (.bool false)), none, false, [], false⟩])
 (.seq (.reg false [⟨some 7, .move (.tmp 1), none, false, [], false⟩,
 ⟨some 8, .fieldAddr 107 (.tmp 3) 0, none, false, [], false⟩,
 ⟨some 9, .fieldAddr 36 (.tmp 8) 0, none, false, [], false⟩,
 ⟨some 10, .load 34 (.tmp 9), none, false, [], false⟩,
 ⟨some 11, .call ⟨.builtin .len, #[.tmp 10], #[34]⟩, none, false, [], false⟩,
 ⟨some 12, .call ⟨.value (.func 179), #[.tmp 7, .tmp 11], #[3, 3]⟩, none, false, [], false⟩,
 ⟨some 13, .move (.tmp 12), none, false, [], false⟩,
 ⟨some 14, .fieldAddr 107 (.tmp 3) 0, some (some 13, true), false, [], false⟩,
 ⟨some 15, .fieldAddr 36 (.tmp 14) 0, some (some 13, true), false, [], false⟩,
 ⟨some 16, .load 34 (.tmp 15), some (some 13, true), false, [], false⟩,
 ⟨some 17, .move (.tmp 1), some (some 13, true), false, [], false⟩,
 ⟨some 18, .indexAddr 34 (.tmp 16) (.tmp 17), some (some 13, true), false, [], false⟩,
 ⟨some 19, .fieldAddr 105 (.tmp 18) 2, some (some 13, true), false, [], false⟩,
 ⟨some 20, .load 3 (.tmp 19), some (some 13, true), false, [], false⟩,
 ⟨some 21, .binOp .gtr 3 (.tmp 20) (.const (.int .i64 0)) 3, some (some 13, true), false, [], false⟩,
 ⟨some 22, .move (.tmp 2), some (some 13, true), false, [], false⟩,
 ⟨some 23, .binOp .eql 4 (.tmp 21) (.tmp 22) 4, some (some 13, true), false, [], false⟩,
 ⟨some 24, .pick (.tmp 13) (.tmp 23) (.const (.bool false)), none, false, [], false⟩,
 ⟨some 6, .assign (.tmp 24), none, false, [], false⟩])
 .ret))
noncomputable def fi207 : FI := ⟨c207, 25, [.tmp 6], .plain⟩
noncomputable def c208 : XC :=
 (.seq (.reg false [⟨some 5, .assign (.const (.bool false)), none, false, [], false⟩])
 (.seq (.reg false [⟨some 6, .fieldAddr 107 (.tmp 2) 1, none, false, [], false⟩,
 ⟨some 7, .fieldAddr 25 (.tmp 6) 3, none, false, [], false⟩,
 ⟨some 8, .load 22 (.tmp 7), none, false, [], false⟩,
 ⟨some 9, .move (.tmp 0), none, false, [], false⟩,
 ⟨some 10, .indexAddr 22 (.tmp 8) (.tmp 9), none, false, [], false⟩,
 ⟨some 11, .load 3 (.tmp 10), none, false, [], false⟩,
 ⟨some 12, .move (.tmp 1), none, false, [], false⟩,
 ⟨some 13, .binOp .eql 3 (.tmp 11) (.tmp 12) 3, none, false, [], false⟩,
 ⟨some 5, .assign (.tmp 13), none, false, [], false⟩])
 .ret))
noncomputable def fi208 : FI := ⟨c208, 14, [.tmp 5], .plain⟩
noncomputable def c209 : XC :=
 (.seq (.reg false [⟨some 2, .assign (.const (.int .i64 0)), none, false, [], false⟩])
 (.seq (.seq
 (.reg false [⟨some 3, .move (.tmp 0), none, false, [], false⟩,
 ⟨some 4, .binOp .eql 3 (.tmp 3) (.const (.int .i64 2)) 3, none, false, [], false⟩])
 (.cond (.tmp 4)
 (.seq (.reg false [⟨some 2, .assign (.const (.int .i64 2)), none, false, [], false⟩])
 .ret)
 .skip))
 (.seq (.reg false [⟨some 2, .assign (.const (.int .i64 1)), none, false, [], false⟩])
 .ret)))
noncomputable def fi209 : FI := ⟨c209, 5, [.tmp 2], .plain⟩
noncomputable def c210 : XC :=
 (.seq (.reg false [⟨some 3, .box 107 (.tmp 0), none, false, [], false⟩,
 ⟨some 4, .box 46 (.tmp 1), none, false, [], false⟩,
 ⟨some 6, .assign (.const (.bool false)), none, false, [], false⟩])
 (.seq (.reg false [⟨some 10, .fieldAddr 107 (.tmp 3) 0, none, false, [], false⟩,
 ⟨some 11, .fieldAddr 36 (.tmp 10) 1, none, false, [], false⟩,
 ⟨some 12, .load 33 (.tmp 11), none, false, [], false⟩,
 ⟨some 13, .fieldAddr 46 (.tmp 4) 5, none, false, [], false⟩,
 ⟨some 14, .load 3 (.tmp 13), none, false, [], false⟩,
 ⟨some 15, .indexAddr 33 (.tmp 12) (.tmp 14), none, false, [], false⟩,
 ⟨some 16, .load 25 (.tmp 15), none, false, [], false⟩,
 ⟨some 7, .alloc 25, none, false, [], false⟩,
 ⟨none, .store 25 (.tmp 7) (.tmp 16), none, false, [], false⟩])
 (.seq (.seq
 (.reg false [⟨some 17, .fieldAddr 46 (.tmp 4) 7, none, false, [], false⟩,
 ⟨some 18, .load 22 (.tmp 17), none, false, [], false⟩,
 ⟨some 19, .call ⟨.builtin .len, #[.tmp 18], #[22]⟩, none, false, [], false⟩,
 ⟨some 20, .move (.const (.int .i64 0)), none, false, [], false⟩])
 (.block 0
 (.loop (.seq (.reg false [⟨some 21, .binOp .lss 3 (.tmp 20) (.tmp 19) 3, none, false, [], false⟩])
 (.seq (.cond (.tmp 21)
 .skip
 (.exit 0))
 (.seq (.block 1
 (.seq (.reg false [⟨some 22, .move (.tmp 20), none, false, [], false⟩,
 ⟨some 23, .indexAddr 22 (.tmp 18) (.tmp 20), none, false, [], false⟩,
 ⟨some 24, .load 3 (.tmp 23), none, false, [], false⟩,
 ⟨some 8, .assign (.tmp 22), none, false, [], false⟩,
 ⟨some 9, .assign (.tmp 24), none, false, [], false⟩])
 (.seq (.reg false [⟨some 25, .move (.tmp 2), none, false, [], false⟩,
 ⟨some 26, .move (.tmp 9), none, false, [], false⟩,
 ⟨some 27, .fieldAddr 25 (.tmp 7) 3, none, false, [], false⟩,
 ⟨some 28, .load 22 (.tmp 27), none, false, [], false⟩,
 ⟨some 29, .move (.tmp 8), none, false, [], false⟩,
 ⟨some 30, .indexAddr 22 (.tmp 28) (.tmp 29), none, false, [], false⟩,
 ⟨some 31, .load 3 (.tmp 30), none, false, [], false⟩,
 ⟨some 32, .call ⟨.value (.tmp 25), #[.tmp 26, .tmp 31], #[3, 3]⟩, none, false, [], false⟩,
 ⟨some 33, .unOp .not 4 (.tmp 32), none, false, [], false⟩])
 (.cond (.tmp 33)
 (.seq (.reg false [⟨some 6, .assign (.const (.bool false)), none, false, [], false⟩])
 .ret)
 .skip))))
 (.reg false [⟨some 34, .binOp .add 3 (.tmp 20) (.const (.int .i64 1)) 3, none, false, [], false⟩,
 ⟨some 20, .move (.tmp 34), none, false, [], false⟩])))))))
 (.seq (.reg false [⟨some 35, .fieldAddr 46 (.tmp 4) 2, none, false, [], false⟩,
 ⟨some 36, .load 3 (.tmp 35), none, false, [], false⟩,
 ⟨some 37, .binOp .lss 3 (.tmp 36) (.const (.int .i64 0)) 3, none, false, [], false⟩,
 ⟨some 38, .move (.tmp 37), none, false, [], false⟩,
 ⟨some 39, .fieldAddr 25 (.tmp 7) 1, some (some 38, false), false, [], false⟩,
 ⟨some 40, .load 3 (.tmp 39), some (some 38, false), false, [], false⟩,
 ⟨some 41, .binOp .neq 3 (.tmp 40) (.const (.int .i64 0)) 3, some (some 38, false), false, [], false⟩,
 ⟨some 42, .move (.tmp 41), some (some 38, false), false, [], false⟩,
 ⟨some 43, .move (.tmp 2), some (some 42, true), false, [], false⟩,
 ⟨some 44, .fieldAddr 46 (.tmp 4) 2, some (some 42, true), false, [], false⟩,
 ⟨some 45, .load 3 (.tmp 44), some (some 42, true), false, [], false⟩,
 ⟨some 46, .fieldAddr 25 (.tmp 7) 1, some (some 42, true), false, [], false⟩,
 ⟨some 47, .load 3 (.tmp 46), some (some 42, true), false, [], false⟩,
 ⟨some 48, .call ⟨.value (.tmp 43), #[.tmp 45, .tmp 47], #[3, 3]⟩, some (some 42, true), false, [], false⟩,
 ⟨some 49, .pick (.tmp 42) (.tmp 48) (.const (.bool false)), some (some 38, false), false, [], false⟩,
 ⟨some 50, .pick (.tmp 38) (.const (.bool true)) (.tmp 49), none, false, [], false⟩,
 ⟨some 6, .assign (.tmp 50), none, false, [], false⟩])
 .ret))))
noncomputable def fi210 : FI := ⟨c210, 51, [.tmp 6], .plain⟩
noncomputable def c215 : XC :=
 (.seq (.reg false [⟨some 8, .assign (.const (.int .i64 0)), none, false, [], false⟩,
 ⟨some 9, .assign (.const (.int .i64 0)), none, false, [], false⟩])
 (.seq (.seq
 (.reg false [⟨some 12, .move (.tmp 0), none, false, [], false⟩,
 ⟨some 13, .binOp .eql 9 (.tmp 12) (.const (.string ⟨#[47]⟩)) 9, none, false, [], false⟩,
 ⟨some 14, .move (.tmp 13), none, false, [], false⟩,
 ⟨some 15, .move (.tmp 0), some (some 14, false), false, [], false⟩,
 ⟨some 16, .binOp .eql 9 (.tmp 15) (.const (.string ⟨#[37]⟩)) 9, some (some 14, false), false, [], false⟩,
 ⟨some 17, .pick (.tmp 14) (.const (.bool true)) (.tmp 16), none, false, [], false⟩])
 (.cond (.tmp 17)
 (.seq (.reg false [⟨some 19, .move (.tmp 0), none, false, [], false⟩,
 ⟨some 20, .move (.tmp 1), none, false, [], false⟩,
 ⟨some 21, .move (.tmp 2), none, false, [], false⟩,
 ⟨some 22, .call ⟨.value (.func 224), #[.tmp 19, .tmp 20, .tmp 21], #[9, 21, 21]⟩, none, false, [], false⟩,
 ⟨some 18, .move (.tmp 22), none, false, [], false⟩,
 ⟨some 23, .extract (.tmp 18) 0, none, false, [], false⟩,
 ⟨some 24, .extract (.tmp 18) 1, none, false, [], false⟩,
 ⟨some 10, .assign (.tmp 23), none, false, [], false⟩,
 ⟨some 11, .assign (.tmp 24), none, false, [], false⟩])
 (.seq (.reg false [⟨some 25, .move (.tmp 10), none, false, [], false⟩,
 ⟨some 26, .convert 21 3 (.tmp 25), none, false, [], false⟩,
 ⟨some 27, .move (.tmp 11), none, false, [], false⟩,
 ⟨some 8, .assign (.tmp 26), none, false, [], false⟩,
 ⟨some 9, .assign (.tmp 27), none, false, [], false⟩])
 .ret))
 .skip))
 (.seq (.reg false [⟨some 28, .move (.tmp 0), none, false, [], false⟩,
 ⟨some 29, .move (.tmp 1), none, false, [], false⟩,
 ⟨some 30, .move (.tmp 2), none, false, [], false⟩,
 ⟨some 31, .move (.tmp 3), none, false, [], false⟩,
 ⟨some 32, .call ⟨.value (.func 225), #[.tmp 28, .tmp 29, .tmp 30, .tmp 31], #[9, 21, 21, 3]⟩, none, false, [], false⟩,
 ⟨some 33, .convert 21 3 (.tmp 32), none, false, [], false⟩,
 ⟨some 8, .assign (.tmp 33), none, false, [], false⟩,
 ⟨some 9, .assign (.const (.int .i64 0)), none, false, [], false⟩])
 .ret)))
noncomputable def fi215 : FI := ⟨c215, 34, [.tmp 8, .tmp 9], .plain⟩
noncomputable def c216 : XC :=
 (.seq (.reg false [⟨some 8, .assign (.const (.int .i64 0)), none, false, [], false⟩,
 ⟨some 9, .assign (.const (.int .i64 0)), none, false, [], false⟩])
 (.seq (.seq
 (.reg false [⟨some 12, .move (.tmp 0), none, false, [], false⟩,
 ⟨some 13, .binOp .eql 9 (.tmp 12) (.const (.string ⟨#[47]⟩)) 9, none, false, [], false⟩,
 ⟨some 14, .move (.tmp 13), none, false, [], false⟩,
 ⟨some 15, .move (.tmp 0), some (some 14, false), false, [], false⟩,
 ⟨some 16, .binOp .eql 9 (.tmp 15) (.const (.string ⟨#[37]⟩)) 9, some (some 14, false), false, [], false⟩,
 ⟨some 17, .pick (.tmp 14) (.const (.bool true)) (.tmp 16), none, false, [], false⟩])
 (.cond (.tmp 17)
 (.seq (.reg false [⟨some 19, .move (.tmp 0), none, false, [], false⟩,
 ⟨some 20, .move (.tmp 1), none, false, [], false⟩,
 ⟨some 21, .move (.tmp 2), none, false, [], false⟩,
 ⟨some 22, .call ⟨.value (.func 226), #[.tmp 19, .tmp 20, .tmp 21], #[9, 2, 2]⟩, none, false, [], false⟩,
 ⟨some 18, .move (.tmp 22), none, false, [], false⟩,
 ⟨some 23, .extract (.tmp 18) 0, none, false, [], false⟩,
 ⟨some 24, .extract (.tmp 18) 1, none, false, [], false⟩,
 ⟨some 10, .assign (.tmp 23), none, false, [], false⟩,
 ⟨some 11, .assign (.tmp 24), none, false, [], false⟩])
 (.seq (.reg false [⟨some 25, .move (.tmp 10), none, false, [], false⟩,
 ⟨some 26, .move (.tmp 11), none, false, [], false⟩,
 ⟨some 8, .assign (.tmp 25), none, false, [], false⟩,
 ⟨some 9, .assign (.tmp 26), none, false, [], false⟩])
 .ret))
 .skip))
 (.seq (.reg false [⟨some 27, .move (.tmp 0), none, false, [], false⟩,
 ⟨some 28, .move (.tmp 1), none, false, [], false⟩,
 ⟨some 29, .move (.tmp 2), none, false, [], false⟩,
 ⟨some 30, .move (.tmp 3), none, false, [], false⟩,
 ⟨some 31, .call ⟨.value (.func 227), #[.tmp 27, .tmp 28, .tmp 29, .tmp 30], #[9, 2, 2, 3]⟩, none, false, [], false⟩,
 ⟨some 8, .assign (.tmp 31), none, false, [], false⟩,
 ⟨some 9, .assign (.const (.int .i64 0)), none, false, [], false⟩])
 .ret)))
noncomputable def fi216 : FI := ⟨c216, 32, [.tmp 8, .tmp 9], .plain⟩
noncomputable def c222 : XC :=
 (.seq (.reg false [⟨some 4, .assign (.const (.int .i64 0)), none, false, [], false⟩])
 (.seq (.seq
 (.reg false [⟨some 6, .move (.tmp 0), none, false, [], false⟩,
 ⟨some 7, .call ⟨.builtin .len, #[.tmp 6], #[22]⟩, none, false, [], false⟩,
 ⟨some 8, .move (.const (.int .i64 0)), none, false, [], false⟩])
 (.block 0
 (.loop (.seq (.reg false [⟨some 9, .binOp .lss 3 (.tmp 8) (.tmp 7) 3, none, false, [], false⟩])
 (.seq (.cond (.tmp 9)
 .skip
 (.exit 0))
 (.seq (.block 1
 (.seq (.reg false [⟨some 10, .move (.tmp 8), none, false, [], false⟩,
 ⟨some 5, .assign (.tmp 10), none, false, [], false⟩])
 (.seq (.reg false [⟨some 11, .move (.tmp 1), none, false, [], false⟩,
 ⟨some 12, .move (.tmp 0), none, false, [], false⟩,
 ⟨some 13, .move (.tmp 5), none, false, [], false⟩,
 ⟨some 14, .indexAddr 22 (.tmp 12) (.tmp 13), none, false, [], false⟩,
 ⟨some 15, .load 3 (.tmp 14), none, false, [], false⟩,
 ⟨some 16, .binOp .eql 3 (.tmp 11) (.tmp 15) 3, none, false, [], false⟩])
 (.cond (.tmp 16)
 (.seq (.reg false [⟨some 17, .move (.tmp 5), none, false, [], false⟩,
 ⟨some 4, .assign (.tmp 17), none, false, [], false⟩])
 .ret)
 .skip))))
 (.reg false [⟨some 18, .binOp .add 3 (.tmp 8) (.const (.int .i64 1)) 3, none, false, [], false⟩,
 ⟨some 8, .move (.tmp 18), none, false, [], false⟩])))))))
 (.seq (.reg false [⟨some 4, .assign (.const (.int .i64 (-1))), none, false, [], false⟩])
 .ret)))
noncomputable def fi222 : FI := ⟨c222, 19, [.tmp 4], .plain⟩
noncomputable def c224 : XC :=
 (.seq (.reg false [⟨some 6, .assign (.const (.int .i32 0)), none, false, [], false⟩,
 ⟨some 7, .assign (.const (.int .i64 0)), none, false, [], false⟩])
 (.seq (.block 0
 (.seq (.reg false [⟨some 9, .move (.tmp 2), none, false, [], false⟩,
 ⟨some 10, .binOp .eql 21 (.tmp 9) (.const (.int .i32 0)) 21, none, false, [], false⟩,
 ⟨some 8, .assign (.tmp 10), none, false, [], false⟩])
 (.cond (.tmp 8)
 (.seq (.reg false [⟨some 6, .assign (.const (.int .i32 0)), none, false, [], false⟩,
 ⟨some 7, .assign (.const (.int .i64 1)), none, false, [], false⟩])
 .ret)
 (.seq (.reg false [⟨some 12, .move (.tmp 0), none, false, [], false⟩,
 ⟨some 13, .binOp .eql 9 (.tmp 12) (.const (.string ⟨#[37]⟩)) 9, none, false, [], false⟩,
 ⟨some 14, .move (.tmp 13), none, false, [], false⟩,
 ⟨some 15, .move (.tmp 2), some (some 14, true), false, [], false⟩,
 ⟨some 16, .binOp .eql 21 (.tmp 15) (.const (.int .i32 (-1))) 21, some (some 14, true), false, [], false⟩,
 ⟨some 17, .pick (.tmp 14) (.tmp 16) (.const (.bool false)), none, false, [], false⟩,
 ⟨some 11, .assign (.tmp 17), none, false, [], false⟩])
 (.cond (.tmp 11)
 (.seq (.reg false [⟨some 6, .assign (.const (.int .i32 0)), none, false, [], false⟩,
 ⟨some 7, .assign (.const (.int .i64 0)), none, false, [], false⟩])
 .ret)
 (.seq (.reg false [⟨some 19, .move (.tmp 0), none, false, [], false⟩,
 ⟨some 20, .binOp .eql 9 (.tmp 19) (.const (.string ⟨#[37]⟩)) 9, none, false, [], false⟩,
 ⟨some 18, .assign (.tmp 20), none, false, [], false⟩])
 (.cond (.tmp 18)
 (.seq (.reg false [⟨some 21, .move (.tmp 1), none, false, [], false⟩,
 ⟨some 22, .move (.tmp 2), none, false, [], false⟩,
 ⟨some 23, .binOp .rem 21 (.tmp 21) (.tmp 22) 21, none, false, [], false⟩,
 ⟨some 6, .assign (.tmp 23), none, false, [], false⟩,
 ⟨some 7, .assign (.const (.int .i64 0)), none, false, [], false⟩])
 .ret)
 (.seq (.reg false [⟨some 25, .move (.tmp 2), none, false, [], false⟩,
 ⟨some 26, .binOp .eql 21 (.tmp 25) (.const (.int .i32 (-1))) 21, none, false, [], false⟩,
 ⟨some 27, .move (.tmp 26), none, false, [], false⟩,
 ⟨some 28, .move (.tmp 1), some (some 27, true), false, [], false⟩,
 ⟨some 29, .binOp .neq 21 (.tmp 28) (.const (.int .i32 0)) 21, some (some 27, true), false, [], false⟩,
 ⟨some 30, .pick (.tmp 27) (.tmp 29) (.const (.bool false)), none, false, [], false⟩,
 ⟨some 31, .move (.tmp 30), none, false, [], false⟩,
 ⟨some 32, .move (.tmp 1), some (some 31, true), false, [], false⟩,
 ⟨some 33, .unOp .neg 21 (.tmp 32), some (some 31, true), false, [], false⟩,
 ⟨some 34, .move (.tmp 1), some (some 31, true), false, [], false⟩,
 ⟨some 35, .binOp .eql 21 (.tmp 33) (.tmp 34) 21, some (some 31, true), false, [], false⟩,
 ⟨some 36, .pick (.tmp 31) (.tmp 35) (.const (.bool false)), none, false, [], false⟩,
 ⟨some 24, .assign (.tmp 36), none, false, [], false⟩])
 (.cond (.tmp 24)
 (.seq (.reg false [⟨some 6, .assign (.const (.int .i32 0)), none, false, [], false⟩,
 ⟨some 7, .assign (.const (.int .i64 2)), none, false, [], false⟩])
 .ret)
 .skip)))))))))
 (.seq (.reg false [⟨some 37, .move (.tmp 1), none, false, [], false⟩,
 ⟨some 38, .move (.tmp 2), none, false, [], false⟩,
 ⟨some 39, .binOp .quo 21 (.tmp 37) (.tmp 38) 21, none, false, [], false⟩,
 ⟨some 6, .assign (.tmp 39), none, false, [], false⟩,
 ⟨some 7, .assign (.const (.int .i64 0)), none, false, [], false⟩])
 .ret)))
noncomputable def fi224 : FI := ⟨c224, 40, [.tmp 6, .tmp 7], .plain⟩
noncomputable def c225 : XC :=
 (.seq (.reg false [⟨some 8, .assign (.const (.int .i32 0)), none, false, [], false⟩])
 (.seq (.reg false [⟨some 10, .move (.tmp 2), none, false, [], false⟩,
 ⟨some 11, .convert 21 221 (.tmp 10), none, false, [], false⟩,
 ⟨some 12, .move (.tmp 3), none, false, [], false⟩,
 ⟨some 13, .binOp .sub 3 (.tmp 12) (.const (.int .i64 1)) 3, none, false, [], false⟩,
 ⟨some 14, .convert 3 221 (.tmp 13), none, false, [], false⟩,
 ⟨some 15, .binOp .and 221 (.tmp 11) (.tmp 14) 221, none, false, [], false⟩,
 ⟨some 9, .assign (.tmp 15), none, false, [], false⟩])
 (.seq (.seq
 (.reg false [⟨some 16, .move (.tmp 0), none, false, [], false⟩])
 (.block 0
 (.seq (.reg false [⟨some 18, .binOp .eql 9 (.tmp 16) (.const (.string ⟨#[43]⟩)) 9, none, false, [], false⟩,
 ⟨some 17, .assign (.tmp 18), none, false, [], false⟩])
 (.cond (.tmp 17)
 (.seq (.reg false [⟨some 19, .move (.tmp 1), none, false, [], false⟩,
 ⟨some 20, .move (.tmp 2), none, false, [], false⟩,
 ⟨some 21, .binOp .add 21 (.tmp 19) (.tmp 20) 21, none, false, [], false⟩,
 ⟨some 8, .assign (.tmp 21), none, false, [], false⟩])
 .ret)
 (.seq (.reg false [⟨some 23, .binOp .eql 9 (.tmp 16) (.const (.string ⟨#[45]⟩)) 9, none, false, [], false⟩,
 ⟨some 22, .assign (.tmp 23), none, false, [], false⟩])
 (.cond (.tmp 22)
 (.seq (.reg false [⟨some 24, .move (.tmp 1), none, false, [], false⟩,
 ⟨some 25, .move (.tmp 2), none, false, [], false⟩,
 ⟨some 26, .binOp .sub 21 (.tmp 24) (.tmp 25) 21, none, false, [], false⟩,
 ⟨some 8, .assign (.tmp 26), none, false, [], false⟩])
 .ret)
 (.seq (.reg false [⟨some 28, .binOp .eql 9 (.tmp 16) (.const (.string ⟨#[42]⟩)) 9, none, false, [], false⟩,
 ⟨some 27, .assign (.tmp 28), none, false, [], false⟩])
 (.cond (.tmp 27)
 (.seq (.reg false [⟨some 29, .move (.tmp 1), none, false, [], false⟩,
 ⟨some 30, .move (.tmp 2), none, false, [], false⟩,
 ⟨some 31, .binOp .mul 21 (.tmp 29) (.tmp 30) 21, none, false, [], false⟩,
 ⟨some 8, .assign (.tmp 31), none, false, [], false⟩])
 .ret)
 (.seq (.reg false [⟨some 33, .binOp .eql 9 (.tmp 16) (.const (.string ⟨#[38]⟩)) 9, none, false, [], false⟩,
 ⟨some 32, .assign (.tmp 33), none, false, [], false⟩])
 (.cond (.tmp 32)
 (.seq (.reg false [⟨some 34, .move (.tmp 1), none, false, [], false⟩,
 ⟨some 35, .move (.tmp 2), none, false, [], false⟩,
 ⟨some 36, .binOp .and 21 (.tmp 34) (.tmp 35) 21, none, false, [], false⟩,
 ⟨some 8, .assign (.tmp 36), none, false, [], false⟩])
 .ret)
 (.seq (.reg false [⟨some 38, .binOp .eql 9 (.tmp 16) (.const (.string ⟨#[124]⟩)) 9, none, false, [], false⟩,
 ⟨some 37, .assign (.tmp 38), none, false, [], false⟩])
 (.cond (.tmp 37)
 (.seq (.reg false [⟨some 39, .move (.tmp 1), none, false, [], false⟩,
 ⟨some 40, .move (.tmp 2), none, false, [], false⟩,
 ⟨some 41, .binOp .or 21 (.tmp 39) (.tmp 40) 21, none, false, [], false⟩,
 ⟨some 8, .assign (.tmp 41), none, false, [], false⟩])
 .ret)
 (.seq (.reg false [⟨some 43, .binOp .eql 9 (.tmp 16) (.const (.string ⟨#[94]⟩)) 9, none, false, [], false⟩,
 ⟨some 42, .assign (.tmp 43), none, false, [], false⟩])
 (.cond (.tmp 42)
 (.seq (.reg false [⟨some 44, .move (.tmp 1), none, false, [], false⟩,
 ⟨some 45, .move (.tmp 2), none, false, [], false⟩,
 ⟨some 46, .binOp .xor 21 (.tmp 44) (.tmp 45) 21, none, false, [], false⟩,
 ⟨some 8, .assign (.tmp 46), none, false, [], false⟩])
 .ret)
 (.seq (.reg false [⟨some 48, .binOp .eql 9 (.tmp 16) (.const (.string ⟨#[60, 60]⟩)) 9, none, false, [], false⟩,
 ⟨some 47, .assign (.tmp 48), none, false, [], false⟩])
 (.cond (.tmp 47)
 (.seq (.reg false [⟨some 49, .move (.tmp 1), none, false, [], false⟩,
 ⟨some 50, .move (.tmp 9), none, false, [], false⟩,
 ⟨some 51, .binOp .shl 21 (.tmp 49) (.tmp 50) 221, none, false, [], false⟩,
 ⟨some 8, .assign (.tmp 51), none, false, [], false⟩])
 .ret)
 (.seq (.reg false [⟨some 53, .binOp .eql 9 (.tmp 16) (.const (.string ⟨#[62, 62]⟩)) 9, none, false, [], false⟩,
 ⟨some 52, .assign (.tmp 53), none, false, [], false⟩])
 (.cond (.tmp 52)
 (.seq (.reg false [⟨some 54, .move (.tmp 1), none, false, [], false⟩,
 ⟨some 55, .move (.tmp 9), none, false, [], false⟩,
 ⟨some 56, .binOp .shr 21 (.tmp 54) (.tmp 55) 221, none, false, [], false⟩,
 ⟨some 8, .assign (.tmp 56), none, false, [], false⟩])
 .ret)
 (.seq (.reg false [⟨some 58, .binOp .eql 9 (.tmp 16) (.const (.string ⟨#[61, 61]⟩)) 9, none, false, [], false⟩,
 ⟨some 57, .assign (.tmp 58), none, false, [], false⟩])
 (.cond (.tmp 57)
 (.seq (.reg false [⟨some 59, .move (.tmp 1), none, false, [], false⟩,
 ⟨some 60, .move (.tmp 2), none, false, [], false⟩,
 ⟨some 61, .binOp .eql 21 (.tmp 59) (.tmp 60) 21, none, false, [], false⟩,
 ⟨some 62, .call ⟨.value (.func 230), #[.tmp 61], #[4]⟩, none, false, [], false⟩,
 ⟨some 8, .assign (.tmp 62), none, false, [], false⟩])
 .ret)
 (.seq (.reg false [⟨some 64, .binOp .eql 9 (.tmp 16) (.const (.string ⟨#[33, 61]⟩)) 9, none, false, [], false⟩,
 ⟨some 63, .assign (.tmp 64), none, false, [], false⟩])
 (.cond (.tmp 63)
 (.seq (.reg false [⟨some 65, .move (.tmp 1), none, false, [], false⟩,
 ⟨some 66, .move (.tmp 2), none, false, [], false⟩,
 ⟨some 67, .binOp .neq 21 (.tmp 65) (.tmp 66) 21, none, false, [], false⟩,
 ⟨some 68, .call ⟨.value (.func 230), #[.tmp 67], #[4]⟩, none, false, [], false⟩,
 ⟨some 8, .assign (.tmp 68), none, false, [], false⟩])
 .ret)
 (.seq (.reg false [⟨some 70, .binOp .eql 9 (.tmp 16) (.const (.string ⟨#[60]⟩)) 9, none, false, [], false⟩,
 ⟨some 69, .assign (.tmp 70), none, false, [], false⟩])
 (.cond (.tmp 69)
 (.seq (.reg false [⟨some 71, .move (.tmp 1), none, false, [], false⟩,
 ⟨some 72, .move (.tmp 2), none, false, [], false⟩,
 ⟨some 73, .binOp .lss 21 (.tmp 71) (.tmp 72) 21, none, false, [], false⟩,
 ⟨some 74, .call ⟨.value (.func 230), #[.tmp 73], #[4]⟩, none, false, [], false⟩,
 ⟨some 8, .assign (.tmp 74), none, false, [], false⟩])
 .ret)
 (.seq (.reg false [⟨some 76, .binOp .eql 9 (.tmp 16) (.const (.string ⟨#[60, 61]⟩)) 9, none, false, [], false⟩,
 ⟨some 75, .assign (.tmp 76), none, false, [], false⟩])
 (.cond (.tmp 75)
 (.seq (.reg false [⟨some 77, .move (.tmp 1), none, false, [], false⟩,
 ⟨some 78, .move (.tmp 2), none, false, [], false⟩,
 ⟨some 79, .binOp .leq 21 (.tmp 77) (.tmp 78) 21, none, false, [], false⟩,
 ⟨some 80, .call ⟨.value (.func 230), #[.tmp 79], #[4]⟩, none, false, [], false⟩,
 ⟨some 8, .assign (.tmp 80), none, false, [], false⟩])
 .ret)
 (.seq (.reg false [⟨some 82, .binOp .eql 9 (.tmp 16) (.const (.string ⟨#[62]⟩)) 9, none, false, [], false⟩,
 ⟨some 81, .assign (.tmp 82), none, false, [], false⟩])
 (.cond (.tmp 81)
 (.seq (.reg false [⟨some 83, .move (.tmp 1), none, false, [], false⟩,
 ⟨some 84, .move (.tmp 2), none, false, [], false⟩,
 ⟨some 85, .binOp .gtr 21 (.tmp 83) (.tmp 84) 21, none, false, [], false⟩,
 ⟨some 86, .call ⟨.value (.func 230), #[.tmp 85], #[4]⟩, none, false, [], false⟩,
 ⟨some 8, .assign (.tmp 86), none, false, [], false⟩])
 .ret)
 (.seq (.reg false [⟨some 88, .binOp .eql 9 (.tmp 16) (.const (.string ⟨#[62, 61]⟩)) 9, none, false, [], false⟩,
 ⟨some 87, .assign (.tmp 88), none, false, [], false⟩])
 (.cond (.tmp 87)
 (.seq (.reg false [⟨some 89, .move (.tmp 1), none, false, [], false⟩,
 ⟨some 90, .move (.tmp 2), none, false, [], false⟩,
 ⟨some 91, .binOp .geq 21 (.tmp 89) (.tmp 90) 21, none, false, [], false⟩,
 ⟨some 92, .call ⟨.value (.func 230), #[.tmp 91], #[4]⟩, none, false, [], false⟩,
 ⟨some 8, .assign (.tmp 92), none, false, [], false⟩])
 .ret)
 .skip))))))))))))))))))))))))))))))
 (.seq (.reg false [⟨some 8, .assign (.const (.int .i32 0)), none, false, [], false⟩])
 .ret))))
noncomputable def fi225 : FI := ⟨c225, 93, [.tmp 8], .plain⟩
noncomputable def c226 : XC :=
 (.seq (.reg false [⟨some 6, .assign (.const (.int .i64 0)), none, false, [], false⟩,
 ⟨some 7, .assign (.const (.int .i64 0)), none, false, [], false⟩])
 (.seq (.block 0
 (.seq (.reg false [⟨some 9, .move (.tmp 2), none, false, [], false⟩,
 ⟨some 10, .binOp .eql 2 (.tmp 9) (.const (.int .i64 0)) 2, none, false, [], false⟩,
 ⟨some 8, .assign (.tmp 10), none, false, [], false⟩])
 (.cond (.tmp 8)
 (.seq (.reg false [⟨some 6, .assign (.const (.int .i64 0)), none, false, [], false⟩,
 ⟨some 7, .assign (.const (.int .i64 1)), none, false, [], false⟩])
 .ret)
 (.seq (.reg false [⟨some 12, .move (.tmp 0), none, false, [], false⟩,
 ⟨some 13, .binOp .eql 9 (.tmp 12) (.const (.string ⟨#[37]⟩)) 9, none, false, [], false⟩,
 ⟨some 14, .move (.tmp 13), none, false, [], false⟩,
 ⟨some 15, .move (.tmp 2), some (some 14, true), false, [], false⟩,
 ⟨some 16, .binOp .eql 2 (.tmp 15) (.const (.int .i64 (-1))) 2, some (some 14, true), false, [], false⟩,
 ⟨some 17, .pick (.tmp 14) (.tmp 16) (.const (.bool false)), none, false, [], false⟩,
 ⟨some 11, .assign (.tmp 17), none, false, [], false⟩])
 (.cond (.tmp 11)
 (.seq (.reg false [⟨some 6, .assign (.const (.int .i64 0)), none, false, [], false⟩,
 ⟨some 7, .assign (.const (.int .i64 0)), none, false, [], false⟩])
 .ret)
 (.seq (.reg false [⟨some 19, .move (.tmp 0), none, false, [], false⟩,
 ⟨some 20, .binOp .eql 9 (.tmp 19) (.const (.string ⟨#[37]⟩)) 9, none, false, [], false⟩,
 ⟨some 18, .assign (.tmp 20), none, false, [], false⟩])
 (.cond (.tmp 18)
 (.seq (.reg false [⟨some 21, .move (.tmp 1), none, false, [], false⟩,
 ⟨some 22, .move (.tmp 2), none, false, [], false⟩,
 ⟨some 23, .binOp .rem 2 (.tmp 21) (.tmp 22) 2, none, false, [], false⟩,
 ⟨some 6, .assign (.tmp 23), none, false, [], false⟩,
 ⟨some 7, .assign (.const (.int .i64 0)), none, false, [], false⟩])
 .ret)
 (.seq (.reg false [⟨some 25, .move (.tmp 2), none, false, [], false⟩,
 ⟨some 26, .binOp .eql 2 (.tmp 25) (.const (.int .i64 (-1))) 2, none, false, [], false⟩,
 ⟨some 27, .move (.tmp 26), none, false, [], false⟩,
 ⟨some 28, .move (.tmp 1), some (some 27, true), false, [], false⟩,
 ⟨some 29, .binOp .neq 2 (.tmp 28) (.const (.int .i64 0)) 2, some (some 27, true), false, [], false⟩,
 ⟨some 30, .pick (.tmp 27) (.tmp 29) (.const (.bool false)), none, false, [], false⟩,
 ⟨some 31, .move (.tmp 30), none, false, [], false⟩,
 ⟨some 32, .move (.tmp 1), some (some 31, true), false, [], false⟩,
 ⟨some 33, .unOp .neg 2 (.tmp 32), some (some 31, true), false, [], false⟩,
 ⟨some 34, .move (.tmp 1), some (some 31, true), false, [], false⟩,
 ⟨some 35, .binOp .eql 2 (.tmp 33) (.tmp 34) 2, some (some 31, true), false, [], false⟩,
 ⟨some 36, .pick (.tmp 31) (.tmp 35) (.const (.bool false)), none, false, [], false⟩,
 ⟨some 24, .assign (.tmp 36), none, false, [], false⟩])
 (.cond (.tmp 24)
 (.seq (.reg false [⟨some 6, .assign (.const (.int .i64 0)), none, false, [], false⟩,
 ⟨some 7, .assign (.const (.int .i64 2)), none, false, [], false⟩])
 .ret)
 .skip)))))))))
 (.seq (.reg false [⟨some 37, .move (.tmp 1), none, false, [], false⟩,
 ⟨some 38, .move (.tmp 2), none, false, [], false⟩,
 ⟨some 39, .binOp .quo 2 (.tmp 37) (.tmp 38) 2, none, false, [], false⟩,
 ⟨some 6, .assign (.tmp 39), none, false, [], false⟩,
 ⟨some 7, .assign (.const (.int .i64 0)), none, false, [], false⟩])
 .ret)))
noncomputable def fi226 : FI := ⟨c226, 40, [.tmp 6, .tmp 7], .plain⟩
noncomputable def c227 : XC :=
 (.seq (.reg false [⟨some 8, .assign (.const (.int .i64 0)), none, false, [], false⟩])
 (.seq (.reg false [⟨some 10, .move (.tmp 2), none, false, [], false⟩,
 ⟨some 11, .convert 2 221 (.tmp 10), none, false, [], false⟩,
 ⟨some 12, .move (.tmp 3), none, false, [], false⟩,
 ⟨some 13, .binOp .sub 3 (.tmp 12) (.const (.int .i64 1)) 3, none, false, [], false⟩,
 ⟨some 14, .convert 3 221 (.tmp 13), none, false, [], false⟩,
 ⟨some 15, .binOp .and 221 (.tmp 11) (.tmp 14) 221, none, false, [], false⟩,
 ⟨some 9, .assign (.tmp 15), none, false, [], false⟩])
 (.seq (.seq
 (.reg false [⟨some 16, .move (.tmp 0), none, false, [], false⟩])
 (.block 0
 (.seq (.reg false [⟨some 18, .binOp .eql 9 (.tmp 16) (.const (.string ⟨#[43]⟩)) 9, none, false, [], false⟩,
 ⟨some 17, .assign (.tmp 18), none, false, [], false⟩])
 (.cond (.tmp 17)
 (.seq (.reg false [⟨some 19, .move (.tmp 1), none, false, [], false⟩,
 ⟨some 20, .move (.tmp 2), none, false, [], false⟩,
 ⟨some 21, .binOp .add 2 (.tmp 19) (.tmp 20) 2, none, false, [], false⟩,
 ⟨some 8, .assign (.tmp 21), none, false, [], false⟩])
 .ret)
 (.seq (.reg false [⟨some 23, .binOp .eql 9 (.tmp 16) (.const (.string ⟨#[45]⟩)) 9, none, false, [], false⟩,
 ⟨some 22, .assign (.tmp 23), none, false, [], false⟩])
 (.cond (.tmp 22)
 (.seq (.reg false [⟨some 24, .move (.tmp 1), none, false, [], false⟩,
 ⟨some 25, .move (.tmp 2), none, false, [], false⟩,
 ⟨some 26, .binOp .sub 2 (.tmp 24) (.tmp 25) 2, none, false, [], false⟩,
 ⟨some 8, .assign (.tmp 26), none, false, [], false⟩])
 .ret)
 (.seq (.reg false [⟨some 28, .binOp .eql 9 (.tmp 16) (.const (.string ⟨#[42]⟩)) 9, none, false, [], false⟩,
 ⟨some 27, .assign (.tmp 28), none, false, [], false⟩])
 (.cond (.tmp 27)
 (.seq (.reg false [⟨some 29, .move (.tmp 1), none, false, [], false⟩,
 ⟨some 30, .move (.tmp 2), none, false, [], false⟩,
 ⟨some 31, .binOp .mul 2 (.tmp 29) (.tmp 30) 2, none, false, [], false⟩,
 ⟨some 8, .assign (.tmp 31), none, false, [], false⟩])
 .ret)
 (.seq (.reg false [⟨some 33, .binOp .eql 9 (.tmp 16) (.const (.string ⟨#[38]⟩)) 9, none, false, [], false⟩,
 ⟨some 32, .assign (.tmp 33), none, false, [], false⟩])
 (.cond (.tmp 32)
 (.seq (.reg false [⟨some 34, .move (.tmp 1), none, false, [], false⟩,
 ⟨some 35, .move (.tmp 2), none, false, [], false⟩,
 ⟨some 36, .binOp .and 2 (.tmp 34) (.tmp 35) 2, none, false, [], false⟩,
 ⟨some 8, .assign (.tmp 36), none, false, [], false⟩])
 .ret)
 (.seq (.reg false [⟨some 38, .binOp .eql 9 (.tmp 16) (.const (.string ⟨#[124]⟩)) 9, none, false, [], false⟩,
 ⟨some 37, .assign (.tmp 38), none, false, [], false⟩])
 (.cond (.tmp 37)
 (.seq (.reg false [⟨some 39, .move (.tmp 1), none, false, [], false⟩,
 ⟨some 40, .move (.tmp 2), none, false, [], false⟩,
 ⟨some 41, .binOp .or 2 (.tmp 39) (.tmp 40) 2, none, false, [], false⟩,
 ⟨some 8, .assign (.tmp 41), none, false, [], false⟩])
 .ret)
 (.seq (.reg false [⟨some 43, .binOp .eql 9 (.tmp 16) (.const (.string ⟨#[94]⟩)) 9, none, false, [], false⟩,
 ⟨some 42, .assign (.tmp 43), none, false, [], false⟩])
 (.cond (.tmp 42)
 (.seq (.reg false [⟨some 44, .move (.tmp 1), none, false, [], false⟩,
 ⟨some 45, .move (.tmp 2), none, false, [], false⟩,
 ⟨some 46, .binOp .xor 2 (.tmp 44) (.tmp 45) 2, none, false, [], false⟩,
 ⟨some 8, .assign (.tmp 46), none, false, [], false⟩])
 .ret)
 (.seq (.reg false [⟨some 48, .binOp .eql 9 (.tmp 16) (.const (.string ⟨#[60, 60]⟩)) 9, none, false, [], false⟩,
 ⟨some 47, .assign (.tmp 48), none, false, [], false⟩])
 (.cond (.tmp 47)
 (.seq (.reg false [⟨some 49, .move (.tmp 1), none, false, [], false⟩,
 ⟨some 50, .move (.tmp 9), none, false, [], false⟩,
 ⟨some 51, .binOp .shl 2 (.tmp 49) (.tmp 50) 221, none, false, [], false⟩,
 ⟨some 8, .assign (.tmp 51), none, false, [], false⟩])
 .ret)
 (.seq (.reg false [⟨some 53, .binOp .eql 9 (.tmp 16) (.const (.string ⟨#[62, 62]⟩)) 9, none, false, [], false⟩,
 ⟨some 52, .assign (.tmp 53), none, false, [], false⟩])
 (.cond (.tmp 52)
 (.seq (.reg false [⟨some 54, .move (.tmp 1), none, false, [], false⟩,
 ⟨some 55, .move (.tmp 9), none, false, [], false⟩,
 ⟨some 56, .binOp .shr 2 (.tmp 54) (.tmp 55) 221, none, false, [], false⟩,
 ⟨some 8, .assign (.tmp 56), none, false, [], false⟩])
 .ret)
 (.seq (.reg false [⟨some 58, .binOp .eql 9 (.tmp 16) (.const (.string ⟨#[61, 61]⟩)) 9, none, false, [], false⟩,
 ⟨some 57, .assign (.tmp 58), none, false, [], false⟩])
 (.cond (.tmp 57)
 (.seq (.reg false [⟨some 59, .move (.tmp 1), none, false, [], false⟩,
 ⟨some 60, .move (.tmp 2), none, false, [], false⟩,
 ⟨some 61, .binOp .eql 2 (.tmp 59) (.tmp 60) 2, none, false, [], false⟩,
 ⟨some 62, .call ⟨.value (.func 231), #[.tmp 61], #[4]⟩, none, false, [], false⟩,
 ⟨some 8, .assign (.tmp 62), none, false, [], false⟩])
 .ret)
 (.seq (.reg false [⟨some 64, .binOp .eql 9 (.tmp 16) (.const (.string ⟨#[33, 61]⟩)) 9, none, false, [], false⟩,
 ⟨some 63, .assign (.tmp 64), none, false, [], false⟩])
 (.cond (.tmp 63)
 (.seq (.reg false [⟨some 65, .move (.tmp 1), none, false, [], false⟩,
 ⟨some 66, .move (.tmp 2), none, false, [], false⟩,
 ⟨some 67, .binOp .neq 2 (.tmp 65) (.tmp 66) 2, none, false, [], false⟩,
 ⟨some 68, .call ⟨.value (.func 231), #[.tmp 67], #[4]⟩, none, false, [], false⟩,
 ⟨some 8, .assign (.tmp 68), none, false, [], false⟩])
 .ret)
 (.seq (.reg false [⟨some 70, .binOp .eql 9 (.tmp 16) (.const (.string ⟨#[60]⟩)) 9, none, false, [], false⟩,
 ⟨some 69, .assign (.tmp 70), none, false, [], false⟩])
 (.cond (.tmp 69)
 (.seq (.reg false [⟨some 71, .move (.tmp 1), none, false, [], false⟩,
 ⟨some 72, .move (.tmp 2), none, false, [], false⟩,
 ⟨some 73, .binOp .lss 2 (.tmp 71) (.tmp 72) 2, none, false, [], false⟩,
 ⟨some 74, .call ⟨.value (.func 231), #[.tmp 73], #[4]⟩, none, false, [], false⟩,
 ⟨some 8, .assign (.tmp 74), none, false, [], false⟩])
 .ret)
 (.seq (.reg false [⟨some 76, .binOp .eql 9 (.tmp 16) (.const (.string ⟨#[60, 61]⟩)) 9, none, false, [], false⟩,
 ⟨some 75, .assign (.tmp 76), none, false, [], false⟩])
 (.cond (.tmp 75)
 (.seq (.reg false [⟨some 77, .move (.tmp 1), none, false, [], false⟩,
 ⟨some 78, .move (.tmp 2), none, false, [], false⟩,
 ⟨some 79, .binOp .leq 2 (.tmp 77) (.tmp 78) 2, none, false, [], false⟩,
 ⟨some 80, .call ⟨.value (.func 231), #[.tmp 79], #[4]⟩, none, false, [], false⟩,
 ⟨some 8, .assign (.tmp 80), none, false, [], false⟩])
 .ret)
 (.seq (.reg false [⟨some 82, .binOp .eql 9 (.tmp 16) (.const (.string ⟨#[62]⟩)) 9, none, false, [], false⟩,
 ⟨some 81, .assign (.tmp 82), none, false, [], false⟩])
 (.cond (.tmp 81)
 (.seq (.reg false [⟨some 83, .move (.tmp 1), none, false, [], false⟩,
 ⟨some 84, .move (.tmp 2), none, false, [], false⟩,
 ⟨some 85, .binOp .gtr 2 (.tmp 83) (.tmp 84) 2, none, false, [], false⟩,
 ⟨some 86, .call ⟨.value (.func 231), #[.tmp 85], #[4]⟩, none, false, [], false⟩,
 ⟨some 8, .assign (.tmp 86), none, false, [], false⟩])
 .ret)
 (.seq (.reg false [⟨some 88, .binOp .eql 9 (.tmp 16) (.const (.string ⟨#[62, 61]⟩)) 9, none, false, [], false⟩,
 ⟨some 87, .assign (.tmp 88), none, false, [], false⟩])
 (.cond (.tmp 87)
 (.seq (.reg false [⟨some 89, .move (.tmp 1), none, false, [], false⟩,
 ⟨some 90, .move (.tmp 2), none, false, [], false⟩,
 ⟨some 91, .binOp .geq 2 (.tmp 89) (.tmp 90) 2, none, false, [], false⟩,
 ⟨some 92, .call ⟨.value (.func 231), #[.tmp 91], #[4]⟩, none, false, [], false⟩,
 ⟨some 8, .assign (.tmp 92), none, false, [], false⟩])
 .ret)
 .skip))))))))))))))))))))))))))))))
 (.seq (.reg false [⟨some 8, .assign (.const (.int .i64 0)), none, false, [], false⟩])
 .ret))))
noncomputable def fi227 : FI := ⟨c227, 93, [.tmp 8], .plain⟩
noncomputable def c230 : XC :=
 (.seq (.reg false [⟨some 2, .assign (.const (.int .i32 0)), none, false, [], false⟩])
 (.seq (.seq
 (.reg false [⟨some 3, .move (.tmp 0), none, false, [], false⟩])
 (.cond (.tmp 3)
 (.seq (.reg false [⟨some 2, .assign (.const (.int .i32 1)), none, false, [], false⟩])
 .ret)
 .skip))
 (.seq (.reg false [⟨some 2, .assign (.const (.int .i32 0)), none, false, [], false⟩])
 .ret)))
noncomputable def fi230 : FI := ⟨c230, 4, [.tmp 2], .plain⟩
noncomputable def c231 : XC :=
 (.seq (.reg false [⟨some 2, .assign (.const (.int .i64 0)), none, false, [], false⟩])
 (.seq (.seq
 (.reg false [⟨some 3, .move (.tmp 0), none, false, [], false⟩])
 (.cond (.tmp 3)
 (.seq (.reg false [⟨some 2, .assign (.const (.int .i64 1)), none, false, [], false⟩])
 .ret)
 .skip))
 (.seq (.reg false [⟨some 2, .assign (.const (.int .i64 0)), none, false, [], false⟩])
 .ret)))
noncomputable def fi231 : FI := ⟨c231, 4, [.tmp 2], .plain⟩
end Go.Proofs.AmEnv
