/- The tables of this program's types and functions for the abstract machine, and that they are the program's. Conditions: none. -/
import Derived.Test.YtgggbdbomcagdaaDoorAmFour
import Derived.KernelRfl
import Derived.Test.YtgggbdbomcagdaaDoorProg
set_option maxRecDepth 100000
namespace Go.Proofs.AmEnv
open Go.AM
noncomputable def ty1 : TI := ⟨.func, 1, 8, .nilfn⟩
noncomputable def ty2 : TI := ⟨.int .i64, 1, 8, .int .i64 0⟩
noncomputable def ty3 : TI := ⟨.int .i64, 1, 8, .int .i64 0⟩
noncomputable def ty4 : TI := ⟨.bool, 1, 1, .bool false⟩
noncomputable def ty5 : TI := ⟨.int .u8, 1, 1, .int .u8 0⟩
noncomputable def ty6 : TI := ⟨.int .u8, 1, 1, .int .u8 0⟩
noncomputable def ty7 : TI := ⟨.struct [(2, 0), (3, 1), (4, 2), (6, 3)] true, 4, 24, .agg [(.int .i64 0), (.int .i64 0), (.bool false), (.int .u8 0)]⟩
noncomputable def ty8 : TI := ⟨.struct [(2, 0), (3, 1), (4, 2), (6, 3)] true, 4, 24, .agg [(.int .i64 0), (.int .i64 0), (.bool false), (.int .u8 0)]⟩
noncomputable def ty9 : TI := ⟨.string, 1, 16, .str []⟩
noncomputable def ty10 : TI := ⟨.string, 1, 16, .str []⟩
noncomputable def ty11 : TI := ⟨.string, 1, 16, .str []⟩
noncomputable def ty12 : TI := ⟨.int .u64, 1, 8, .int .u64 0⟩
noncomputable def ty13 : TI := ⟨.struct [(9, 0), (12, 1)] false, 2, 24, .agg [(.str []), (.int .u64 0)]⟩
noncomputable def ty14 : TI := ⟨.struct [(9, 0), (12, 1)] false, 2, 24, .agg [(.str []), (.int .u64 0)]⟩
noncomputable def ty15 : TI := ⟨.ptr 130, 1, 8, .nilptr⟩
noncomputable def ty16 : TI := ⟨.ptr 133, 1, 8, .nilptr⟩
noncomputable def ty17 : TI := ⟨.ptr 141, 1, 8, .nilptr⟩
noncomputable def ty18 : TI := ⟨.struct [(17, 0)] false, 1, 8, .agg [.nilptr]⟩
noncomputable def ty19 : TI := ⟨.struct [(17, 0)] false, 1, 8, .agg [.nilptr]⟩
noncomputable def ty20 : TI := ⟨.other, 1, 16, .niliface⟩
noncomputable def ty21 : TI := ⟨.int .i32, 1, 4, .int .i32 0⟩
noncomputable def ty22 : TI := ⟨.slice 9, 1, 24, .nilsl⟩
noncomputable def ty23 : TI := ⟨.func, 1, 8, .nilfn⟩
noncomputable def ty24 : TI := ⟨.slice 3, 1, 24, .nilsl⟩
noncomputable def ty25 : TI := ⟨.struct [(3, 0), (3, 1), (3, 2), (3, 3), (3, 4), (3, 5), (9, 6), (24, 7)] false, 8, 88, .agg [(.int .i64 0), (.int .i64 0), (.int .i64 0), (.int .i64 0), (.int .i64 0), (.int .i64 0), (.str []), .nilsl]⟩
noncomputable def ty26 : TI := ⟨.struct [(3, 0), (3, 1), (3, 2), (3, 3), (3, 4), (3, 5), (9, 6), (24, 7)] false, 8, 88, .agg [(.int .i64 0), (.int .i64 0), (.int .i64 0), (.int .i64 0), (.int .i64 0), (.int .i64 0), (.str []), .nilsl]⟩
noncomputable def ty27 : TI := ⟨.func, 1, 8, .nilfn⟩
noncomputable def ty28 : TI := ⟨.func, 1, 8, .nilfn⟩
noncomputable def ty29 : TI := ⟨.func, 1, 8, .nilfn⟩
noncomputable def ty30 : TI := ⟨.slice 65, 1, 24, .nilsl⟩
noncomputable def ty31 : TI := ⟨.slice 37, 1, 24, .nilsl⟩
noncomputable def ty32 : TI := ⟨.struct [(30, 0), (31, 1)] false, 2, 48, .agg [.nilsl, .nilsl]⟩
noncomputable def ty33 : TI := ⟨.struct [(30, 0), (31, 1)] false, 2, 48, .agg [.nilsl, .nilsl]⟩
noncomputable def ty34 : TI := ⟨.func, 1, 8, .nilfn⟩
noncomputable def ty35 : TI := ⟨.slice 46, 1, 24, .nilsl⟩
noncomputable def ty36 : TI := ⟨.struct [(9, 0), (3, 1), (3, 2), (24, 3), (35, 4)] false, 5, 80, .agg [(.str []), (.int .i64 0), (.int .i64 0), .nilsl, .nilsl]⟩
noncomputable def ty37 : TI := ⟨.struct [(9, 0), (3, 1), (3, 2), (24, 3), (35, 4)] false, 5, 80, .agg [(.str []), (.int .i64 0), (.int .i64 0), .nilsl, .nilsl]⟩
noncomputable def ty38 : TI := ⟨.func, 1, 8, .nilfn⟩
noncomputable def ty39 : TI := ⟨.func, 1, 8, .nilfn⟩
noncomputable def ty40 : TI := ⟨.func, 1, 8, .nilfn⟩
noncomputable def ty41 : TI := ⟨.func, 1, 8, .nilfn⟩
noncomputable def ty42 : TI := ⟨.slice 26, 1, 24, .nilsl⟩
noncomputable def ty43 : TI := ⟨.struct [(3, 0), (3, 1), (3, 2), (3, 3)] true, 4, 32, .agg [(.int .i64 0), (.int .i64 0), (.int .i64 0), (.int .i64 0)]⟩
noncomputable def ty44 : TI := ⟨.struct [(3, 0), (3, 1), (3, 2), (3, 3)] true, 4, 32, .agg [(.int .i64 0), (.int .i64 0), (.int .i64 0), (.int .i64 0)]⟩
noncomputable def ty45 : TI := ⟨.struct [(42, 0), (44, 1)] false, 5, 56, .agg [.nilsl, (.int .i64 0), (.int .i64 0), (.int .i64 0), (.int .i64 0)]⟩
noncomputable def ty46 : TI := ⟨.struct [(42, 0), (44, 1)] false, 5, 56, .agg [.nilsl, (.int .i64 0), (.int .i64 0), (.int .i64 0), (.int .i64 0)]⟩
noncomputable def ty47 : TI := ⟨.func, 1, 8, .nilfn⟩
noncomputable def ty48 : TI := ⟨.func, 1, 8, .nilfn⟩
noncomputable def ty49 : TI := ⟨.int .i64, 1, 8, .int .i64 0⟩
noncomputable def ty50 : TI := ⟨.func, 1, 8, .nilfn⟩
noncomputable def ty51 : TI := ⟨.func, 1, 8, .nilfn⟩
noncomputable def ty52 : TI := ⟨.func, 1, 8, .nilfn⟩
noncomputable def ty53 : TI := ⟨.struct [(24, 0), (3, 1), (3, 2)] false, 3, 40, .agg [.nilsl, (.int .i64 0), (.int .i64 0)]⟩
noncomputable def ty54 : TI := ⟨.struct [(24, 0), (3, 1), (3, 2)] false, 3, 40, .agg [.nilsl, (.int .i64 0), (.int .i64 0)]⟩
noncomputable def ty55 : TI := ⟨.func, 1, 8, .nilfn⟩
noncomputable def ty56 : TI := ⟨.func, 1, 8, .nilfn⟩
noncomputable def ty57 : TI := ⟨.func, 1, 8, .nilfn⟩
noncomputable def ty58 : TI := ⟨.func, 1, 8, .nilfn⟩
noncomputable def ty59 : TI := ⟨.func, 1, 8, .nilfn⟩
noncomputable def ty60 : TI := ⟨.func, 1, 8, .nilfn⟩
noncomputable def ty61 : TI := ⟨.func, 1, 8, .nilfn⟩
noncomputable def ty62 : TI := ⟨.func, 1, 8, .nilfn⟩
noncomputable def ty63 : TI := ⟨.func, 1, 8, .nilfn⟩
noncomputable def ty64 : TI := ⟨.struct [(9, 0), (3, 1), (3, 2), (3, 3)] true, 4, 40, .agg [(.str []), (.int .i64 0), (.int .i64 0), (.int .i64 0)]⟩
noncomputable def ty65 : TI := ⟨.struct [(9, 0), (3, 1), (3, 2), (3, 3)] true, 4, 40, .agg [(.str []), (.int .i64 0), (.int .i64 0), (.int .i64 0)]⟩
noncomputable def ty66 : TI := ⟨.func, 1, 8, .nilfn⟩
noncomputable def ty67 : TI := ⟨.struct [(33, 0), (37, 2)] false, 7, 128, .agg [.nilsl, .nilsl, (.str []), (.int .i64 0), (.int .i64 0), .nilsl, .nilsl]⟩
noncomputable def ty68 : TI := ⟨.struct [(33, 0), (37, 2)] false, 7, 128, .agg [.nilsl, .nilsl, (.str []), (.int .i64 0), (.int .i64 0), .nilsl, .nilsl]⟩
noncomputable def ty69 : TI := ⟨.func, 1, 8, .nilfn⟩
noncomputable def ty70 : TI := ⟨.func, 1, 8, .nilfn⟩
noncomputable def ty71 : TI := ⟨.func, 1, 8, .nilfn⟩
noncomputable def ty72 : TI := ⟨.func, 1, 8, .nilfn⟩
noncomputable def ty73 : TI := ⟨.ptr 76, 1, 8, .nilptr⟩
noncomputable def ty74 : TI := ⟨.slice 24, 1, 24, .nilsl⟩
noncomputable def ty75 : TI := ⟨.struct [(33, 0), (24, 2), (3, 3), (74, 4), (54, 5), (3, 8)] false, 9, 152, .agg [.nilsl, .nilsl, .nilsl, (.int .i64 0), .nilsl, .nilsl, (.int .i64 0), (.int .i64 0), (.int .i64 0)]⟩
noncomputable def ty76 : TI := ⟨.struct [(33, 0), (24, 2), (3, 3), (74, 4), (54, 5), (3, 8)] false, 9, 152, .agg [.nilsl, .nilsl, .nilsl, (.int .i64 0), .nilsl, .nilsl, (.int .i64 0), (.int .i64 0), (.int .i64 0)]⟩
noncomputable def ty77 : TI := ⟨.struct [(3, 0), (3, 1)] true, 2, 16, .agg [(.int .i64 0), (.int .i64 0)]⟩
noncomputable def ty78 : TI := ⟨.struct [(3, 0), (3, 1)] true, 2, 16, .agg [(.int .i64 0), (.int .i64 0)]⟩
noncomputable def ty79 : TI := ⟨.func, 1, 8, .nilfn⟩
noncomputable def ty80 : TI := ⟨.func, 1, 8, .nilfn⟩
noncomputable def ty81 : TI := ⟨.array 2 9, 2, 32, .agg [(.str []), (.str [])]⟩
noncomputable def ty82 : TI := ⟨.array 11 81, 22, 352, .agg [(.str []), (.str []), (.str []), (.str []), (.str []), (.str []), (.str []), (.str []), (.str []), (.str []), (.str []), (.str []), (.str []), (.str []), (.str []), (.str []), (.str []), (.str []), (.str []), (.str []), (.str []), (.str [])]⟩
noncomputable def ty83 : TI := ⟨.func, 1, 8, .nilfn⟩
noncomputable def ty84 : TI := ⟨.func, 1, 8, .nilfn⟩
noncomputable def ty85 : TI := ⟨.func, 1, 8, .nilfn⟩
noncomputable def ty86 : TI := ⟨.func, 1, 8, .nilfn⟩
noncomputable def ty87 : TI := ⟨.func, 1, 8, .nilfn⟩
noncomputable def ty88 : TI := ⟨.func, 1, 8, .nilfn⟩
noncomputable def ty89 : TI := ⟨.func, 1, 8, .nilfn⟩
noncomputable def ty90 : TI := ⟨.func, 1, 8, .nilfn⟩
noncomputable def ty91 : TI := ⟨.func, 1, 8, .nilfn⟩
noncomputable def ty92 : TI := ⟨.func, 1, 8, .nilfn⟩
noncomputable def ty93 : TI := ⟨.func, 1, 8, .nilfn⟩
noncomputable def ty94 : TI := ⟨.func, 1, 8, .nilfn⟩
noncomputable def ty95 : TI := ⟨.func, 1, 8, .nilfn⟩
noncomputable def ty96 : TI := ⟨.func, 1, 8, .nilfn⟩
noncomputable def ty97 : TI := ⟨.func, 1, 8, .nilfn⟩
noncomputable def ty98 : TI := ⟨.func, 1, 8, .nilfn⟩
noncomputable def ty100 : TI := ⟨.func, 1, 8, .nilfn⟩
noncomputable def ty101 : TI := ⟨.ptr 3, 1, 8, .nilptr⟩
noncomputable def ty102 : TI := ⟨.func, 1, 8, .nilfn⟩
noncomputable def ty103 : TI := ⟨.func, 1, 8, .nilfn⟩
noncomputable def ty104 : TI := ⟨.func, 1, 8, .nilfn⟩
noncomputable def ty105 : TI := ⟨.func, 1, 8, .nilfn⟩
noncomputable def ty106 : TI := ⟨.func, 1, 8, .nilfn⟩
noncomputable def ty107 : TI := ⟨.func, 1, 8, .nilfn⟩
noncomputable def ty108 : TI := ⟨.func, 1, 8, .nilfn⟩
noncomputable def ty109 : TI := ⟨.func, 1, 8, .nilfn⟩
noncomputable def ty110 : TI := ⟨.func, 1, 8, .nilfn⟩
noncomputable def ty111 : TI := ⟨.func, 1, 8, .nilfn⟩
noncomputable def ty112 : TI := ⟨.int .i8, 1, 1, .int .i8 0⟩
noncomputable def ty113 : TI := ⟨.func, 1, 8, .nilfn⟩
noncomputable def ty114 : TI := ⟨.func, 1, 8, .nilfn⟩
noncomputable def ty116 : TI := ⟨.func, 1, 8, .nilfn⟩
noncomputable def ty117 : TI := ⟨.func, 1, 8, .nilfn⟩
noncomputable def ty119 : TI := ⟨.func, 1, 8, .nilfn⟩
noncomputable def ty120 : TI := ⟨.func, 1, 8, .nilfn⟩
noncomputable def ty121 : TI := ⟨.int .u64, 1, 8, .int .u64 0⟩
noncomputable def ty122 : TI := ⟨.func, 1, 8, .nilfn⟩
noncomputable def ty123 : TI := ⟨.func, 1, 8, .nilfn⟩
noncomputable def ty124 : TI := ⟨.func, 1, 8, .nilfn⟩
noncomputable def ty125 : TI := ⟨.int .u32, 1, 4, .int .u32 0⟩
noncomputable def ty127 : TI := ⟨.func, 1, 8, .nilfn⟩
noncomputable def ty128 : TI := ⟨.func, 1, 8, .nilfn⟩
noncomputable def ty129 : TI := ⟨.struct [(17, 0), (17, 1), (17, 2), (9, 3)] false, 4, 40, .agg [.nilptr, .nilptr, .nilptr, (.str [])]⟩
noncomputable def ty130 : TI := ⟨.struct [(17, 0), (17, 1), (17, 2), (9, 3)] false, 4, 40, .agg [.nilptr, .nilptr, .nilptr, (.str [])]⟩
noncomputable def ty131 : TI := ⟨.array 0 16, 0, 0, .agg []⟩
noncomputable def ty132 : TI := ⟨.struct [(131, 0)] false, 0, 0, .agg []⟩
noncomputable def ty133 : TI := ⟨.struct [(131, 0)] false, 0, 0, .agg []⟩
noncomputable def ty134 : TI := ⟨.int .u8, 1, 1, .int .u8 0⟩
noncomputable def ty135 : TI := ⟨.int .u8, 1, 1, .int .u8 0⟩
noncomputable def ty136 : TI := ⟨.func, 1, 8, .nilfn⟩
noncomputable def ty137 : TI := ⟨.ptr 5, 1, 8, .nilptr⟩
noncomputable def ty138 : TI := ⟨.int .i32, 1, 4, .int .i32 0⟩
noncomputable def ty139 : TI := ⟨.int .i32, 1, 4, .int .i32 0⟩
noncomputable def ty140 : TI := ⟨.struct [(12, 0), (12, 1), (125, 2), (134, 3), (5, 4), (5, 5), (135, 6), (136, 7), (137, 8), (138, 9), (139, 10)] false, 11, 48, .agg [(.int .u64 0), (.int .u64 0), (.int .u32 0), (.int .u8 0), (.int .u8 0), (.int .u8 0), (.int .u8 0), .nilfn, .nilptr, (.int .i32 0), (.int .i32 0)]⟩
noncomputable def ty141 : TI := ⟨.struct [(12, 0), (12, 1), (125, 2), (134, 3), (5, 4), (5, 5), (135, 6), (136, 7), (137, 8), (138, 9), (139, 10)] false, 11, 48, .agg [(.int .u64 0), (.int .u64 0), (.int .u32 0), (.int .u8 0), (.int .u8 0), (.int .u8 0), (.int .u8 0), .nilfn, .nilptr, (.int .i32 0), (.int .i32 0)]⟩
noncomputable def ty142 : TI := ⟨.other, 1, 8, .nilptr⟩
noncomputable def ti (t : Nat) : Option TI :=
  bif Nat.blt t 143 then (bif Nat.blt t 71 then (bif Nat.blt t 35 then (bif Nat.blt t 17 then (bif Nat.blt t 8 then (bif Nat.blt t 4 then (bif Nat.blt t 2 then (bif Nat.blt t 1 then (none) else (some ty1)) else (bif Nat.blt t 3 then (some ty2) else (some ty3))) else (bif Nat.blt t 6 then (bif Nat.blt t 5 then (some ty4) else (some ty5)) else (bif Nat.blt t 7 then (some ty6) else (some ty7)))) else (bif Nat.blt t 12 then (bif Nat.blt t 10 then (bif Nat.blt t 9 then (some ty8) else (some ty9)) else (bif Nat.blt t 11 then (some ty10) else (some ty11))) else (bif Nat.blt t 14 then (bif Nat.blt t 13 then (some ty12) else (some ty13)) else (bif Nat.blt t 15 then (some ty14) else (bif Nat.blt t 16 then (some ty15) else (some ty16)))))) else (bif Nat.blt t 26 then (bif Nat.blt t 21 then (bif Nat.blt t 19 then (bif Nat.blt t 18 then (some ty17) else (some ty18)) else (bif Nat.blt t 20 then (some ty19) else (some ty20))) else (bif Nat.blt t 23 then (bif Nat.blt t 22 then (some ty21) else (some ty22)) else (bif Nat.blt t 24 then (some ty23) else (bif Nat.blt t 25 then (some ty24) else (some ty25))))) else (bif Nat.blt t 30 then (bif Nat.blt t 28 then (bif Nat.blt t 27 then (some ty26) else (some ty27)) else (bif Nat.blt t 29 then (some ty28) else (some ty29))) else (bif Nat.blt t 32 then (bif Nat.blt t 31 then (some ty30) else (some ty31)) else (bif Nat.blt t 33 then (some ty32) else (bif Nat.blt t 34 then (some ty33) else (some ty34))))))) else (bif Nat.blt t 53 then (bif Nat.blt t 44 then (bif Nat.blt t 39 then (bif Nat.blt t 37 then (bif Nat.blt t 36 then (some ty35) else (some ty36)) else (bif Nat.blt t 38 then (some ty37) else (some ty38))) else (bif Nat.blt t 41 then (bif Nat.blt t 40 then (some ty39) else (some ty40)) else (bif Nat.blt t 42 then (some ty41) else (bif Nat.blt t 43 then (some ty42) else (some ty43))))) else (bif Nat.blt t 48 then (bif Nat.blt t 46 then (bif Nat.blt t 45 then (some ty44) else (some ty45)) else (bif Nat.blt t 47 then (some ty46) else (some ty47))) else (bif Nat.blt t 50 then (bif Nat.blt t 49 then (some ty48) else (some ty49)) else (bif Nat.blt t 51 then (some ty50) else (bif Nat.blt t 52 then (some ty51) else (some ty52)))))) else (bif Nat.blt t 62 then (bif Nat.blt t 57 then (bif Nat.blt t 55 then (bif Nat.blt t 54 then (some ty53) else (some ty54)) else (bif Nat.blt t 56 then (some ty55) else (some ty56))) else (bif Nat.blt t 59 then (bif Nat.blt t 58 then (some ty57) else (some ty58)) else (bif Nat.blt t 60 then (some ty59) else (bif Nat.blt t 61 then (some ty60) else (some ty61))))) else (bif Nat.blt t 66 then (bif Nat.blt t 64 then (bif Nat.blt t 63 then (some ty62) else (some ty63)) else (bif Nat.blt t 65 then (some ty64) else (some ty65))) else (bif Nat.blt t 68 then (bif Nat.blt t 67 then (some ty66) else (some ty67)) else (bif Nat.blt t 69 then (some ty68) else (bif Nat.blt t 70 then (some ty69) else (some ty70)))))))) else (bif Nat.blt t 107 then (bif Nat.blt t 89 then (bif Nat.blt t 80 then (bif Nat.blt t 75 then (bif Nat.blt t 73 then (bif Nat.blt t 72 then (some ty71) else (some ty72)) else (bif Nat.blt t 74 then (some ty73) else (some ty74))) else (bif Nat.blt t 77 then (bif Nat.blt t 76 then (some ty75) else (some ty76)) else (bif Nat.blt t 78 then (some ty77) else (bif Nat.blt t 79 then (some ty78) else (some ty79))))) else (bif Nat.blt t 84 then (bif Nat.blt t 82 then (bif Nat.blt t 81 then (some ty80) else (some ty81)) else (bif Nat.blt t 83 then (some ty82) else (some ty83))) else (bif Nat.blt t 86 then (bif Nat.blt t 85 then (some ty84) else (some ty85)) else (bif Nat.blt t 87 then (some ty86) else (bif Nat.blt t 88 then (some ty87) else (some ty88)))))) else (bif Nat.blt t 98 then (bif Nat.blt t 93 then (bif Nat.blt t 91 then (bif Nat.blt t 90 then (some ty89) else (some ty90)) else (bif Nat.blt t 92 then (some ty91) else (some ty92))) else (bif Nat.blt t 95 then (bif Nat.blt t 94 then (some ty93) else (some ty94)) else (bif Nat.blt t 96 then (some ty95) else (bif Nat.blt t 97 then (some ty96) else (some ty97))))) else (bif Nat.blt t 102 then (bif Nat.blt t 100 then (bif Nat.blt t 99 then (some ty98) else (none)) else (bif Nat.blt t 101 then (some ty100) else (some ty101))) else (bif Nat.blt t 104 then (bif Nat.blt t 103 then (some ty102) else (some ty103)) else (bif Nat.blt t 105 then (some ty104) else (bif Nat.blt t 106 then (some ty105) else (some ty106))))))) else (bif Nat.blt t 125 then (bif Nat.blt t 116 then (bif Nat.blt t 111 then (bif Nat.blt t 109 then (bif Nat.blt t 108 then (some ty107) else (some ty108)) else (bif Nat.blt t 110 then (some ty109) else (some ty110))) else (bif Nat.blt t 113 then (bif Nat.blt t 112 then (some ty111) else (some ty112)) else (bif Nat.blt t 114 then (some ty113) else (bif Nat.blt t 115 then (some ty114) else (none))))) else (bif Nat.blt t 120 then (bif Nat.blt t 118 then (bif Nat.blt t 117 then (some ty116) else (some ty117)) else (bif Nat.blt t 119 then (none) else (some ty119))) else (bif Nat.blt t 122 then (bif Nat.blt t 121 then (some ty120) else (some ty121)) else (bif Nat.blt t 123 then (some ty122) else (bif Nat.blt t 124 then (some ty123) else (some ty124)))))) else (bif Nat.blt t 134 then (bif Nat.blt t 129 then (bif Nat.blt t 127 then (bif Nat.blt t 126 then (some ty125) else (none)) else (bif Nat.blt t 128 then (some ty127) else (some ty128))) else (bif Nat.blt t 131 then (bif Nat.blt t 130 then (some ty129) else (some ty130)) else (bif Nat.blt t 132 then (some ty131) else (bif Nat.blt t 133 then (some ty132) else (some ty133))))) else (bif Nat.blt t 138 then (bif Nat.blt t 136 then (bif Nat.blt t 135 then (some ty134) else (some ty135)) else (bif Nat.blt t 137 then (some ty136) else (some ty137))) else (bif Nat.blt t 140 then (bif Nat.blt t 139 then (some ty138) else (some ty139)) else (bif Nat.blt t 141 then (some ty140) else (bif Nat.blt t 142 then (some ty141) else (some ty142))))))))) else none
noncomputable def fn (f : Nat) : Option FI :=
  bif Nat.blt f 114 then (bif Nat.blt f 57 then (bif Nat.blt f 28 then (bif Nat.blt f 14 then (bif Nat.blt f 7 then (bif Nat.blt f 3 then (bif Nat.blt f 1 then (fiOf Tryd.f0) else (bif Nat.blt f 2 then (fiOf Tryd.f1) else (fiOf Tryd.f2))) else (bif Nat.blt f 5 then (bif Nat.blt f 4 then (fiOf Tryd.f3) else (fiOf Tryd.f4)) else (bif Nat.blt f 6 then (fiOf Tryd.f5) else (fiOf Tryd.f6)))) else (bif Nat.blt f 10 then (bif Nat.blt f 8 then (fiOf Tryd.f7) else (bif Nat.blt f 9 then (fiOf Tryd.f8) else (fiOf Tryd.f9))) else (bif Nat.blt f 12 then (bif Nat.blt f 11 then (fiOf Tryd.f10) else (fiOf Tryd.f11)) else (bif Nat.blt f 13 then (fiOf Tryd.f12) else (fiOf Tryd.f13))))) else (bif Nat.blt f 21 then (bif Nat.blt f 17 then (bif Nat.blt f 15 then (fiOf Tryd.f14) else (bif Nat.blt f 16 then (fiOf Tryd.f15) else (fiOf Tryd.f16))) else (bif Nat.blt f 19 then (bif Nat.blt f 18 then (fiOf Tryd.f17) else (fiOf Tryd.f18)) else (bif Nat.blt f 20 then (fiOf Tryd.f19) else (fiOf Tryd.f20)))) else (bif Nat.blt f 24 then (bif Nat.blt f 22 then (fiOf Tryd.f21) else (bif Nat.blt f 23 then (fiOf Tryd.f22) else (fiOf Tryd.f23))) else (bif Nat.blt f 26 then (bif Nat.blt f 25 then (fiOf Tryd.f24) else (fiOf Tryd.f25)) else (bif Nat.blt f 27 then (fiOf Tryd.f26) else (fiOf Tryd.f27)))))) else (bif Nat.blt f 42 then (bif Nat.blt f 35 then (bif Nat.blt f 31 then (bif Nat.blt f 29 then (fiOf Tryd.f28) else (bif Nat.blt f 30 then (fiOf Tryd.f29) else (fiOf Tryd.f30))) else (bif Nat.blt f 33 then (bif Nat.blt f 32 then (fiOf Tryd.f31) else (fiOf Tryd.f32)) else (bif Nat.blt f 34 then (fiOf Tryd.f33) else (fiOf Tryd.f34)))) else (bif Nat.blt f 38 then (bif Nat.blt f 36 then (fiOf Tryd.f35) else (bif Nat.blt f 37 then (fiOf Tryd.f36) else (fiOf Tryd.f37))) else (bif Nat.blt f 40 then (bif Nat.blt f 39 then (fiOf Tryd.f38) else (fiOf Tryd.f39)) else (bif Nat.blt f 41 then (fiOf Tryd.f40) else (fiOf Tryd.f41))))) else (bif Nat.blt f 49 then (bif Nat.blt f 45 then (bif Nat.blt f 43 then (fiOf Tryd.f42) else (bif Nat.blt f 44 then (fiOf Tryd.f43) else (fiOf Tryd.f44))) else (bif Nat.blt f 47 then (bif Nat.blt f 46 then (fiOf Tryd.f45) else (fiOf Tryd.f46)) else (bif Nat.blt f 48 then (fiOf Tryd.f47) else (fiOf Tryd.f48)))) else (bif Nat.blt f 53 then (bif Nat.blt f 51 then (bif Nat.blt f 50 then (fiOf Tryd.f49) else (fiOf Tryd.f50)) else (bif Nat.blt f 52 then (fiOf Tryd.f51) else (fiOf Tryd.f52))) else (bif Nat.blt f 55 then (bif Nat.blt f 54 then (fiOf Tryd.f53) else (fiOf Tryd.f54)) else (bif Nat.blt f 56 then (fiOf Tryd.f55) else (fiOf Tryd.f56))))))) else (bif Nat.blt f 85 then (bif Nat.blt f 71 then (bif Nat.blt f 64 then (bif Nat.blt f 60 then (bif Nat.blt f 58 then (fiOf Tryd.f57) else (bif Nat.blt f 59 then (fiOf Tryd.f58) else (fiOf Tryd.f59))) else (bif Nat.blt f 62 then (bif Nat.blt f 61 then (fiOf Tryd.f60) else (fiOf Tryd.f61)) else (bif Nat.blt f 63 then (fiOf Tryd.f62) else (fiOf Tryd.f63)))) else (bif Nat.blt f 67 then (bif Nat.blt f 65 then (fiOf Tryd.f64) else (bif Nat.blt f 66 then (fiOf Tryd.f65) else (fiOf Tryd.f66))) else (bif Nat.blt f 69 then (bif Nat.blt f 68 then (fiOf Tryd.f67) else (fiOf Tryd.f68)) else (bif Nat.blt f 70 then (fiOf Tryd.f69) else (fiOf Tryd.f70))))) else (bif Nat.blt f 78 then (bif Nat.blt f 74 then (bif Nat.blt f 72 then (fiOf Tryd.f71) else (bif Nat.blt f 73 then (fiOf Tryd.f72) else (fiOf Tryd.f73))) else (bif Nat.blt f 76 then (bif Nat.blt f 75 then (fiOf Tryd.f74) else (fiOf Tryd.f75)) else (bif Nat.blt f 77 then (fiOf Tryd.f76) else (fiOf Tryd.f77)))) else (bif Nat.blt f 81 then (bif Nat.blt f 79 then (fiOf Tryd.f78) else (bif Nat.blt f 80 then (fiOf Tryd.f79) else (fiOf Tryd.f80))) else (bif Nat.blt f 83 then (bif Nat.blt f 82 then (fiOf Tryd.f81) else (fiOf Tryd.f82)) else (bif Nat.blt f 84 then (fiOf Tryd.f83) else (fiOf Tryd.f84)))))) else (bif Nat.blt f 99 then (bif Nat.blt f 92 then (bif Nat.blt f 88 then (bif Nat.blt f 86 then (fiOf Tryd.f85) else (bif Nat.blt f 87 then (fiOf Tryd.f86) else (fiOf Tryd.f87))) else (bif Nat.blt f 90 then (bif Nat.blt f 89 then (fiOf Tryd.f88) else (fiOf Tryd.f89)) else (bif Nat.blt f 91 then (fiOf Tryd.f90) else (fiOf Tryd.f91)))) else (bif Nat.blt f 95 then (bif Nat.blt f 93 then (fiOf Tryd.f92) else (bif Nat.blt f 94 then (fiOf Tryd.f93) else (fiOf Tryd.f94))) else (bif Nat.blt f 97 then (bif Nat.blt f 96 then (fiOf Tryd.f95) else (fiOf Tryd.f96)) else (bif Nat.blt f 98 then (fiOf Tryd.f97) else (fiOf Tryd.f98))))) else (bif Nat.blt f 106 then (bif Nat.blt f 102 then (bif Nat.blt f 100 then (fiOf Tryd.f99) else (bif Nat.blt f 101 then (fiOf Tryd.f100) else (fiOf Tryd.f101))) else (bif Nat.blt f 104 then (bif Nat.blt f 103 then (fiOf Tryd.f102) else (fiOf Tryd.f103)) else (bif Nat.blt f 105 then (fiOf Tryd.f104) else (fiOf Tryd.f105)))) else (bif Nat.blt f 110 then (bif Nat.blt f 108 then (bif Nat.blt f 107 then (fiOf Tryd.f106) else (fiOf Tryd.f107)) else (bif Nat.blt f 109 then (fiOf Tryd.f108) else (fiOf Tryd.f109))) else (bif Nat.blt f 112 then (bif Nat.blt f 111 then (fiOf Tryd.f110) else (fiOf Tryd.f111)) else (bif Nat.blt f 113 then (fiOf Tryd.f112) else (fiOf Tryd.f113)))))))) else none
noncomputable def env : Env := ⟨ti, fn, fun _ => none⟩
theorem ti_all : (List.range 143).map ti = (List.range 143).map (tiOf Tryd.prog) := by kernel_rfl
theorem fn_all : (List.range 114).map fn = (List.range 114).map (fnOf Tryd.prog) := by kernel_rfl
theorem ti_none (t : Nat) (h : 143 ≤ t) : ti t = none := by unfold ti; rw [(Heap.blt_false h : Nat.blt t 143 = false)]; rfl
theorem fn_none (t : Nat) (h : 114 ≤ t) : fn t = none := by unfold fn; rw [(Heap.blt_false h : Nat.blt t 114 = false)]; rfl
theorem env_ok : EnvOk env Tryd.prog := envOk (n := 143) (m := 114) ti_all ti_none fn_all fn_none (by kernel_rfl)
end Go.Proofs.AmEnv
