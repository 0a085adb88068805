/- The tables of this program's types and functions for the abstract machine, and that they are the program's. Conditions: none. -/
import Derived.Test.YthgknegndpoebaaDoorCode
import Derived.KernelRfl
import Derived.Shelf.Strings.Shaped
import Derived.Test.YthgknegndpoebaaDoorProg
set_option maxRecDepth 100000
namespace Go.Proofs
open Go.Shelf
def Tryd.laysM144_ren : Go.Shelf.Ren := ⟨fun | 144 => 47 | 143 => 56 | 219 => 58 | 217 => 59 | 225 => 60 | 224 => 61 | 267 => 62 | 266 => 63 | 314 => 64 | n => n, fun | 9 => 9 | 4 => 4 | 3 => 3 | 5 => 5 | 46 => 88 | 146 => 90 | 51 => 89 | n => n, fun | 1 => 1 | n => n⟩
theorem Tryd.laysM144 : Go.Proofs.LaysM.n144 Tryd.prog Tryd.laysM144_ren := {
 mixed := by kernel_rfl
 f143 := Tryd.func56.trans (congrArg some (by kernel_rfl))
 f144 := Tryd.func47.trans (congrArg some (by kernel_rfl))
 f217 := Tryd.func59.trans (congrArg some (by kernel_rfl))
 f219 := Tryd.func58.trans (congrArg some (by kernel_rfl))
 f224 := Tryd.func61.trans (congrArg some (by kernel_rfl))
 f225 := Tryd.func60.trans (congrArg some (by kernel_rfl))
 f266 := Tryd.func63.trans (congrArg some (by kernel_rfl))
 f267 := Tryd.func62.trans (congrArg some (by kernel_rfl))
 f314 := Tryd.func64.trans (congrArg some (by kernel_rfl))
 t3 := Tryd.underlying3
 a3 := Tryd.isAgg3
 z3 := Tryd.sizeOf3
 v3 := Tryd.zeroValue3
 t4 := Tryd.underlying4
 a4 := Tryd.isAgg4
 z4 := Tryd.sizeOf4
 v4 := Tryd.zeroValue4
 t5 := Tryd.underlying5
 a5 := Tryd.isAgg5
 z5 := Tryd.sizeOf5
 v5 := Tryd.zeroValue5
 t9 := Tryd.underlying9
 a9 := Tryd.isAgg9
 z9 := Tryd.sizeOf9
 v9 := Tryd.zeroValue9
 t46 := Tryd.underlying88
 a46 := Tryd.isAgg88
 z46 := Tryd.sizeOf88
 v46 := Tryd.zeroValue88
 t51 := Tryd.underlying89
 a51 := Tryd.isAgg89
 z51 := Tryd.sizeOf89
 v51 := Tryd.zeroValue89
 t146 := Tryd.underlying90
 a146 := Tryd.isAgg90
 z146 := Tryd.sizeOf90
 v146 := Tryd.zeroValue90
 g1 := by kernel_rfl
 i3 := by kernel_rfl
 i4 := by kernel_rfl
 i5 := by kernel_rfl
 i9 := by kernel_rfl
 i46 := by kernel_rfl
 i51 := by kernel_rfl
 i146 := by kernel_rfl
 m1 := by kernel_rfl
 s1_3 := fun w h => Go.Proofs.cell_of_shapedOpen_int (zero := #[.int .i64 0]) (t := 3) h (of_decide_eq_true (by kernel_rfl)) (by kernel_rfl) rfl (by kernel_rfl) (by kernel_rfl) Tryd.underlying3 }
end Go.Proofs
namespace Go.Proofs.AmEnv
open Go.AM
noncomputable def ty1 : TI := ⟨.func, 1, 8, .nilfn⟩
noncomputable def ty2 : TI := ⟨.int .i64, 1, 8, .int .i64 0⟩
noncomputable def ty3 : TI := ⟨.int .i64, 1, 8, .int .i64 0⟩
noncomputable def ty4 : TI := ⟨.bool, 1, 1, .bool false⟩
noncomputable def ty5 : TI := ⟨.int .u8, 1, 1, .int .u8 0⟩
noncomputable def ty6 : TI := ⟨.int .u8, 1, 1, .int .u8 0⟩
noncomputable def ty7 : TI := ⟨.struct [(2, 0), (3, 1), (4, 2), (6, 3)] true, 4, 24, .agg [(.int .i64 0), (.int .i64 0), (.bool false), (.int .u8 0)]⟩
noncomputable def ty8 : TI := ⟨.struct [(2, 0), (3, 1), (4, 2), (6, 3)] true, 4, 24, .agg [(.int .i64 0), (.int .i64 0), (.bool false), (.int .u8 0)]⟩
noncomputable def ty9 : TI := ⟨.string, 1, 16, .str []⟩
noncomputable def ty10 : TI := ⟨.string, 1, 16, .str []⟩
noncomputable def ty11 : TI := ⟨.string, 1, 16, .str []⟩
noncomputable def ty12 : TI := ⟨.int .u64, 1, 8, .int .u64 0⟩
noncomputable def ty13 : TI := ⟨.struct [(9, 0), (12, 1)] false, 2, 24, .agg [(.str []), (.int .u64 0)]⟩
noncomputable def ty14 : TI := ⟨.struct [(9, 0), (12, 1)] false, 2, 24, .agg [(.str []), (.int .u64 0)]⟩
noncomputable def ty15 : TI := ⟨.ptr 94, 1, 8, .nilptr⟩
noncomputable def ty16 : TI := ⟨.ptr 97, 1, 8, .nilptr⟩
noncomputable def ty17 : TI := ⟨.ptr 106, 1, 8, .nilptr⟩
noncomputable def ty18 : TI := ⟨.struct [(17, 0)] false, 1, 8, .agg [.nilptr]⟩
noncomputable def ty19 : TI := ⟨.struct [(17, 0)] false, 1, 8, .agg [.nilptr]⟩
noncomputable def ty20 : TI := ⟨.iface, 1, 16, .niliface⟩
noncomputable def ty21 : TI := ⟨.int .i32, 1, 4, .int .i32 0⟩
noncomputable def ty22 : TI := ⟨.slice 56, 1, 24, .nilsl⟩
noncomputable def ty23 : TI := ⟨.slice 31, 1, 24, .nilsl⟩
noncomputable def ty24 : TI := ⟨.struct [(22, 0), (23, 1)] false, 2, 48, .agg [.nilsl, .nilsl]⟩
noncomputable def ty25 : TI := ⟨.struct [(22, 0), (23, 1)] false, 2, 48, .agg [.nilsl, .nilsl]⟩
noncomputable def ty26 : TI := ⟨.func, 1, 8, .nilfn⟩
noncomputable def ty27 : TI := ⟨.func, 1, 8, .nilfn⟩
noncomputable def ty28 : TI := ⟨.slice 3, 1, 24, .nilsl⟩
noncomputable def ty29 : TI := ⟨.slice 40, 1, 24, .nilsl⟩
noncomputable def ty30 : TI := ⟨.struct [(9, 0), (3, 1), (3, 2), (28, 3), (29, 4)] false, 5, 80, .agg [(.str []), (.int .i64 0), (.int .i64 0), .nilsl, .nilsl]⟩
noncomputable def ty31 : TI := ⟨.struct [(9, 0), (3, 1), (3, 2), (28, 3), (29, 4)] false, 5, 80, .agg [(.str []), (.int .i64 0), (.int .i64 0), .nilsl, .nilsl]⟩
noncomputable def ty32 : TI := ⟨.func, 1, 8, .nilfn⟩
noncomputable def ty33 : TI := ⟨.func, 1, 8, .nilfn⟩
noncomputable def ty34 : TI := ⟨.func, 1, 8, .nilfn⟩
noncomputable def ty35 : TI := ⟨.func, 1, 8, .nilfn⟩
noncomputable def ty36 : TI := ⟨.slice 42, 1, 24, .nilsl⟩
noncomputable def ty37 : TI := ⟨.struct [(3, 0), (3, 1), (3, 2), (3, 3)] true, 4, 32, .agg [(.int .i64 0), (.int .i64 0), (.int .i64 0), (.int .i64 0)]⟩
noncomputable def ty38 : TI := ⟨.struct [(3, 0), (3, 1), (3, 2), (3, 3)] true, 4, 32, .agg [(.int .i64 0), (.int .i64 0), (.int .i64 0), (.int .i64 0)]⟩
noncomputable def ty39 : TI := ⟨.struct [(36, 0), (38, 1)] false, 5, 56, .agg [.nilsl, (.int .i64 0), (.int .i64 0), (.int .i64 0), (.int .i64 0)]⟩
noncomputable def ty40 : TI := ⟨.struct [(36, 0), (38, 1)] false, 5, 56, .agg [.nilsl, (.int .i64 0), (.int .i64 0), (.int .i64 0), (.int .i64 0)]⟩
noncomputable def ty41 : TI := ⟨.struct [(3, 0), (3, 1), (3, 2), (3, 3), (3, 4), (3, 5), (9, 6), (28, 7)] false, 8, 88, .agg [(.int .i64 0), (.int .i64 0), (.int .i64 0), (.int .i64 0), (.int .i64 0), (.int .i64 0), (.str []), .nilsl]⟩
noncomputable def ty42 : TI := ⟨.struct [(3, 0), (3, 1), (3, 2), (3, 3), (3, 4), (3, 5), (9, 6), (28, 7)] false, 8, 88, .agg [(.int .i64 0), (.int .i64 0), (.int .i64 0), (.int .i64 0), (.int .i64 0), (.int .i64 0), (.str []), .nilsl]⟩
noncomputable def ty43 : TI := ⟨.func, 1, 8, .nilfn⟩
noncomputable def ty44 : TI := ⟨.int .i64, 1, 8, .int .i64 0⟩
noncomputable def ty45 : TI := ⟨.func, 1, 8, .nilfn⟩
noncomputable def ty46 : TI := ⟨.func, 1, 8, .nilfn⟩
noncomputable def ty47 : TI := ⟨.func, 1, 8, .nilfn⟩
noncomputable def ty48 : TI := ⟨.func, 1, 8, .nilfn⟩
noncomputable def ty49 : TI := ⟨.func, 1, 8, .nilfn⟩
noncomputable def ty50 : TI := ⟨.func, 1, 8, .nilfn⟩
noncomputable def ty51 : TI := ⟨.func, 1, 8, .nilfn⟩
noncomputable def ty52 : TI := ⟨.func, 1, 8, .nilfn⟩
noncomputable def ty53 : TI := ⟨.func, 1, 8, .nilfn⟩
noncomputable def ty54 : TI := ⟨.func, 1, 8, .nilfn⟩
noncomputable def ty55 : TI := ⟨.struct [(9, 0), (3, 1), (3, 2), (3, 3)] true, 4, 40, .agg [(.str []), (.int .i64 0), (.int .i64 0), (.int .i64 0)]⟩
noncomputable def ty56 : TI := ⟨.struct [(9, 0), (3, 1), (3, 2), (3, 3)] true, 4, 40, .agg [(.str []), (.int .i64 0), (.int .i64 0), (.int .i64 0)]⟩
noncomputable def ty57 : TI := ⟨.func, 1, 8, .nilfn⟩
noncomputable def ty58 : TI := ⟨.struct [(25, 0), (31, 2)] false, 7, 128, .agg [.nilsl, .nilsl, (.str []), (.int .i64 0), (.int .i64 0), .nilsl, .nilsl]⟩
noncomputable def ty59 : TI := ⟨.struct [(25, 0), (31, 2)] false, 7, 128, .agg [.nilsl, .nilsl, (.str []), (.int .i64 0), (.int .i64 0), .nilsl, .nilsl]⟩
noncomputable def ty60 : TI := ⟨.func, 1, 8, .nilfn⟩
noncomputable def ty61 : TI := ⟨.func, 1, 8, .nilfn⟩
noncomputable def ty62 : TI := ⟨.func, 1, 8, .nilfn⟩
noncomputable def ty63 : TI := ⟨.array 2 9, 2, 32, .agg [(.str []), (.str [])]⟩
noncomputable def ty64 : TI := ⟨.array 11 63, 22, 352, .agg [(.str []), (.str []), (.str []), (.str []), (.str []), (.str []), (.str []), (.str []), (.str []), (.str []), (.str []), (.str []), (.str []), (.str []), (.str []), (.str []), (.str []), (.str []), (.str []), (.str []), (.str []), (.str [])]⟩
noncomputable def ty65 : TI := ⟨.func, 1, 8, .nilfn⟩
noncomputable def ty66 : TI := ⟨.func, 1, 8, .nilfn⟩
noncomputable def ty67 : TI := ⟨.func, 1, 8, .nilfn⟩
noncomputable def ty68 : TI := ⟨.func, 1, 8, .nilfn⟩
noncomputable def ty69 : TI := ⟨.func, 1, 8, .nilfn⟩
noncomputable def ty70 : TI := ⟨.func, 1, 8, .nilfn⟩
noncomputable def ty71 : TI := ⟨.func, 1, 8, .nilfn⟩
noncomputable def ty72 : TI := ⟨.func, 1, 8, .nilfn⟩
noncomputable def ty73 : TI := ⟨.func, 1, 8, .nilfn⟩
noncomputable def ty74 : TI := ⟨.func, 1, 8, .nilfn⟩
noncomputable def ty75 : TI := ⟨.func, 1, 8, .nilfn⟩
noncomputable def ty76 : TI := ⟨.func, 1, 8, .nilfn⟩
noncomputable def ty77 : TI := ⟨.func, 1, 8, .nilfn⟩
noncomputable def ty78 : TI := ⟨.func, 1, 8, .nilfn⟩
noncomputable def ty79 : TI := ⟨.func, 1, 8, .nilfn⟩
noncomputable def ty80 : TI := ⟨.func, 1, 8, .nilfn⟩
noncomputable def ty81 : TI := ⟨.func, 1, 8, .nilfn⟩
noncomputable def ty82 : TI := ⟨.func, 1, 8, .nilfn⟩
noncomputable def ty83 : TI := ⟨.func, 1, 8, .nilfn⟩
noncomputable def ty84 : TI := ⟨.func, 1, 8, .nilfn⟩
noncomputable def ty85 : TI := ⟨.func, 1, 8, .nilfn⟩
noncomputable def ty86 : TI := ⟨.int .i8, 1, 1, .int .i8 0⟩
noncomputable def ty87 : TI := ⟨.func, 1, 8, .nilfn⟩
noncomputable def ty88 : TI := ⟨.int .u64, 1, 8, .int .u64 0⟩
noncomputable def ty89 : TI := ⟨.int .u32, 1, 4, .int .u32 0⟩
noncomputable def ty91 : TI := ⟨.func, 1, 8, .nilfn⟩
noncomputable def ty92 : TI := ⟨.func, 1, 8, .nilfn⟩
noncomputable def ty93 : TI := ⟨.struct [(17, 0), (17, 1), (17, 2), (9, 3)] false, 4, 40, .agg [.nilptr, .nilptr, .nilptr, (.str [])]⟩
noncomputable def ty94 : TI := ⟨.struct [(17, 0), (17, 1), (17, 2), (9, 3)] false, 4, 40, .agg [.nilptr, .nilptr, .nilptr, (.str [])]⟩
noncomputable def ty95 : TI := ⟨.array 0 16, 0, 0, .agg []⟩
noncomputable def ty96 : TI := ⟨.struct [(95, 0)] false, 0, 0, .agg []⟩
noncomputable def ty97 : TI := ⟨.struct [(95, 0)] false, 0, 0, .agg []⟩
noncomputable def ty98 : TI := ⟨.func, 1, 8, .nilfn⟩
noncomputable def ty99 : TI := ⟨.int .u8, 1, 1, .int .u8 0⟩
noncomputable def ty100 : TI := ⟨.int .u8, 1, 1, .int .u8 0⟩
noncomputable def ty101 : TI := ⟨.func, 1, 8, .nilfn⟩
noncomputable def ty102 : TI := ⟨.ptr 5, 1, 8, .nilptr⟩
noncomputable def ty103 : TI := ⟨.int .i32, 1, 4, .int .i32 0⟩
noncomputable def ty104 : TI := ⟨.int .i32, 1, 4, .int .i32 0⟩
noncomputable def ty105 : TI := ⟨.struct [(12, 0), (12, 1), (89, 2), (99, 3), (5, 4), (5, 5), (100, 6), (101, 7), (102, 8), (103, 9), (104, 10)] false, 11, 48, .agg [(.int .u64 0), (.int .u64 0), (.int .u32 0), (.int .u8 0), (.int .u8 0), (.int .u8 0), (.int .u8 0), .nilfn, .nilptr, (.int .i32 0), (.int .i32 0)]⟩
noncomputable def ty106 : TI := ⟨.struct [(12, 0), (12, 1), (89, 2), (99, 3), (5, 4), (5, 5), (100, 6), (101, 7), (102, 8), (103, 9), (104, 10)] false, 11, 48, .agg [(.int .u64 0), (.int .u64 0), (.int .u32 0), (.int .u8 0), (.int .u8 0), (.int .u8 0), (.int .u8 0), .nilfn, .nilptr, (.int .i32 0), (.int .i32 0)]⟩
noncomputable def ty107 : TI := ⟨.other, 1, 8, .nilptr⟩
noncomputable def ti (t : Nat) : Option TI :=
 bif Nat.blt t 108 then (bif Nat.blt t 54 then (bif Nat.blt t 27 then (bif Nat.blt t 13 then (bif Nat.blt t 6 then (bif Nat.blt t 3 then (bif Nat.blt t 1 then (none) else (bif Nat.blt t 2 then (some ty1) else (some ty2))) else (bif Nat.blt t 4 then (some ty3) else (bif Nat.blt t 5 then (some ty4) else (some ty5)))) else (bif Nat.blt t 9 then (bif Nat.blt t 7 then (some ty6) else (bif Nat.blt t 8 then (some ty7) else (some ty8))) else (bif Nat.blt t 11 then (bif Nat.blt t 10 then (some ty9) else (some ty10)) else (bif Nat.blt t 12 then (some ty11) else (some ty12))))) else (bif Nat.blt t 20 then (bif Nat.blt t 16 then (bif Nat.blt t 14 then (some ty13) else (bif Nat.blt t 15 then (some ty14) else (some ty15))) else (bif Nat.blt t 18 then (bif Nat.blt t 17 then (some ty16) else (some ty17)) else (bif Nat.blt t 19 then (some ty18) else (some ty19)))) else (bif Nat.blt t 23 then (bif Nat.blt t 21 then (some ty20) else (bif Nat.blt t 22 then (some ty21) else (some ty22))) else (bif Nat.blt t 25 then (bif Nat.blt t 24 then (some ty23) else (some ty24)) else (bif Nat.blt t 26 then (some ty25) else (some ty26)))))) else (bif Nat.blt t 40 then (bif Nat.blt t 33 then (bif Nat.blt t 30 then (bif Nat.blt t 28 then (some ty27) else (bif Nat.blt t 29 then (some ty28) else (some ty29))) else (bif Nat.blt t 31 then (some ty30) else (bif Nat.blt t 32 then (some ty31) else (some ty32)))) else (bif Nat.blt t 36 then (bif Nat.blt t 34 then (some ty33) else (bif Nat.blt t 35 then (some ty34) else (some ty35))) else (bif Nat.blt t 38 then (bif Nat.blt t 37 then (some ty36) else (some ty37)) else (bif Nat.blt t 39 then (some ty38) else (some ty39))))) else (bif Nat.blt t 47 then (bif Nat.blt t 43 then (bif Nat.blt t 41 then (some ty40) else (bif Nat.blt t 42 then (some ty41) else (some ty42))) else (bif Nat.blt t 45 then (bif Nat.blt t 44 then (some ty43) else (some ty44)) else (bif Nat.blt t 46 then (some ty45) else (some ty46)))) else (bif Nat.blt t 50 then (bif Nat.blt t 48 then (some ty47) else (bif Nat.blt t 49 then (some ty48) else (some ty49))) else (bif Nat.blt t 52 then (bif Nat.blt t 51 then (some ty50) else (some ty51)) else (bif Nat.blt t 53 then (some ty52) else (some ty53))))))) else (bif Nat.blt t 81 then (bif Nat.blt t 67 then (bif Nat.blt t 60 then (bif Nat.blt t 57 then (bif Nat.blt t 55 then (some ty54) else (bif Nat.blt t 56 then (some ty55) else (some ty56))) else (bif Nat.blt t 58 then (some ty57) else (bif Nat.blt t 59 then (some ty58) else (some ty59)))) else (bif Nat.blt t 63 then (bif Nat.blt t 61 then (some ty60) else (bif Nat.blt t 62 then (some ty61) else (some ty62))) else (bif Nat.blt t 65 then (bif Nat.blt t 64 then (some ty63) else (some ty64)) else (bif Nat.blt t 66 then (some ty65) else (some ty66))))) else (bif Nat.blt t 74 then (bif Nat.blt t 70 then (bif Nat.blt t 68 then (some ty67) else (bif Nat.blt t 69 then (some ty68) else (some ty69))) else (bif Nat.blt t 72 then (bif Nat.blt t 71 then (some ty70) else (some ty71)) else (bif Nat.blt t 73 then (some ty72) else (some ty73)))) else (bif Nat.blt t 77 then (bif Nat.blt t 75 then (some ty74) else (bif Nat.blt t 76 then (some ty75) else (some ty76))) else (bif Nat.blt t 79 then (bif Nat.blt t 78 then (some ty77) else (some ty78)) else (bif Nat.blt t 80 then (some ty79) else (some ty80)))))) else (bif Nat.blt t 94 then (bif Nat.blt t 87 then (bif Nat.blt t 84 then (bif Nat.blt t 82 then (some ty81) else (bif Nat.blt t 83 then (some ty82) else (some ty83))) else (bif Nat.blt t 85 then (some ty84) else (bif Nat.blt t 86 then (some ty85) else (some ty86)))) else (bif Nat.blt t 90 then (bif Nat.blt t 88 then (some ty87) else (bif Nat.blt t 89 then (some ty88) else (some ty89))) else (bif Nat.blt t 92 then (bif Nat.blt t 91 then (none) else (some ty91)) else (bif Nat.blt t 93 then (some ty92) else (some ty93))))) else (bif Nat.blt t 101 then (bif Nat.blt t 97 then (bif Nat.blt t 95 then (some ty94) else (bif Nat.blt t 96 then (some ty95) else (some ty96))) else (bif Nat.blt t 99 then (bif Nat.blt t 98 then (some ty97) else (some ty98)) else (bif Nat.blt t 100 then (some ty99) else (some ty100)))) else (bif Nat.blt t 104 then (bif Nat.blt t 102 then (some ty101) else (bif Nat.blt t 103 then (some ty102) else (some ty103))) else (bif Nat.blt t 106 then (bif Nat.blt t 105 then (some ty104) else (some ty105)) else (bif Nat.blt t 107 then (some ty106) else (some ty107)))))))) else none
noncomputable def fn (f : Nat) : Option FI :=
 bif Nat.blt f 85 then (bif Nat.blt f 42 then (bif Nat.blt f 21 then (bif Nat.blt f 10 then (bif Nat.blt f 5 then (bif Nat.blt f 2 then (bif Nat.blt f 1 then (none) else (none)) else (bif Nat.blt f 3 then (none) else (bif Nat.blt f 4 then (some fi3) else (some fi4)))) else (bif Nat.blt f 7 then (bif Nat.blt f 6 then (some fi5) else (some fi6)) else (bif Nat.blt f 8 then (some fi7) else (bif Nat.blt f 9 then (some fi8) else (some fi9))))) else (bif Nat.blt f 15 then (bif Nat.blt f 12 then (bif Nat.blt f 11 then (some fi10) else (some fi11)) else (bif Nat.blt f 13 then (some fi12) else (bif Nat.blt f 14 then (some fi13) else (some fi14)))) else (bif Nat.blt f 18 then (bif Nat.blt f 16 then (some fi15) else (bif Nat.blt f 17 then (some fi16) else (some fi17))) else (bif Nat.blt f 19 then (some fi18) else (bif Nat.blt f 20 then (some fi19) else (some fi20)))))) else (bif Nat.blt f 31 then (bif Nat.blt f 26 then (bif Nat.blt f 23 then (bif Nat.blt f 22 then (some fi21) else (some fi22)) else (bif Nat.blt f 24 then (some fi23) else (bif Nat.blt f 25 then (some fi24) else (some fi25)))) else (bif Nat.blt f 28 then (bif Nat.blt f 27 then (some fi26) else (some fi27)) else (bif Nat.blt f 29 then (some fi28) else (bif Nat.blt f 30 then (some fi29) else (some fi30))))) else (bif Nat.blt f 36 then (bif Nat.blt f 33 then (bif Nat.blt f 32 then (some fi31) else (some fi32)) else (bif Nat.blt f 34 then (some fi33) else (bif Nat.blt f 35 then (some fi34) else (some fi35)))) else (bif Nat.blt f 39 then (bif Nat.blt f 37 then (some fi36) else (bif Nat.blt f 38 then (some fi37) else (some fi38))) else (bif Nat.blt f 40 then (some fi39) else (bif Nat.blt f 41 then (some fi40) else (some fi41))))))) else (bif Nat.blt f 63 then (bif Nat.blt f 52 then (bif Nat.blt f 47 then (bif Nat.blt f 44 then (bif Nat.blt f 43 then (some fi42) else (some fi43)) else (bif Nat.blt f 45 then (some fi44) else (bif Nat.blt f 46 then (some fi45) else (some fi46)))) else (bif Nat.blt f 49 then (bif Nat.blt f 48 then (none) else (some fi48)) else (bif Nat.blt f 50 then (some fi49) else (bif Nat.blt f 51 then (some fi50) else (some fi51))))) else (bif Nat.blt f 57 then (bif Nat.blt f 54 then (bif Nat.blt f 53 then (some fi52) else (some fi53)) else (bif Nat.blt f 55 then (some fi54) else (bif Nat.blt f 56 then (some fi55) else (none)))) else (bif Nat.blt f 60 then (bif Nat.blt f 58 then (some fi57) else (bif Nat.blt f 59 then (none) else (none))) else (bif Nat.blt f 61 then (none) else (bif Nat.blt f 62 then (none) else (none)))))) else (bif Nat.blt f 74 then (bif Nat.blt f 68 then (bif Nat.blt f 65 then (bif Nat.blt f 64 then (none) else (none)) else (bif Nat.blt f 66 then (none) else (bif Nat.blt f 67 then (none) else (none)))) else (bif Nat.blt f 71 then (bif Nat.blt f 69 then (none) else (bif Nat.blt f 70 then (none) else (none))) else (bif Nat.blt f 72 then (none) else (bif Nat.blt f 73 then (none) else (none))))) else (bif Nat.blt f 79 then (bif Nat.blt f 76 then (bif Nat.blt f 75 then (none) else (none)) else (bif Nat.blt f 77 then (none) else (bif Nat.blt f 78 then (none) else (none)))) else (bif Nat.blt f 82 then (bif Nat.blt f 80 then (none) else (bif Nat.blt f 81 then (none) else (none))) else (bif Nat.blt f 83 then (none) else (bif Nat.blt f 84 then (none) else (none)))))))) else none
noncomputable def env : Env := ⟨ti, fn, fun g => bif Nat.beq g 0 then some (.agg [.str [43], .str [43], .str [42], .str [42], .str [38], .str [38], .str [124], .str [124], .str [94], .str [94], .str [61, 61], .str [61, 61], .str [33, 61], .str [33, 61], .str [60], .str [62], .str [62], .str [60], .str [60, 61], .str [62, 61], .str [62, 61], .str [60, 61]]) else none, fun f => Nat.beq f 47, some 1, fun _ => false, fun _ => none, fun _ _ => false⟩
theorem dlf_ok : ∀ f ks, env.dlf f = some ks → DlfAt Tryd.prog f ks := fun f ks h => by cases (h : (none : Option (List Nat)) = some ks)
theorem srt_ok : ∀ f k, env.srt f k = true → SrtAt Tryd.prog f k := fun f k h => by cases (h : false = true)
theorem ti_all : (List.range 108).map ti = (List.range 108).map (tiOf Tryd.prog) := by kernel_rfl
theorem fn_all : (List.range 85).map fn = (List.range 85).map (fnSel 216032044625428472 Tryd.prog) := by kernel_rfl
theorem ti_none (t : Nat) (h : 108 ≤ t) : ti t = none := by unfold ti; rw [(Heap.blt_false h : Nat.blt t 108 = false)]; rfl
theorem fn_none (t : Nat) (h : 85 ≤ t) : fn t = none := by unfold fn; rw [(Heap.blt_false h : Nat.blt t 85 = false)]; rfl
theorem env_ok : EnvOk env Tryd.prog := envOk (n := 108) (m := 85) (mask := 216032044625428472) ti_all ti_none fn_all fn_none (told_of Go.Proofs.Tryd.laysM144 (fun f h => beq_true h) rfl) dlf_ok srt_ok (by kernel_rfl)
end Go.Proofs.AmEnv
