/- The tables of this program's types and functions for the abstract machine, and that they are the program's. Conditions: none. -/
import Derived.Test.YtcipkemddanppaaOptKnownCode0
import Derived.KernelRfl
import Derived.Test.YtcipkemddanppaaProg
set_option maxRecDepth 100000
namespace Go.Proofs.AmEnv
open Go.AM
noncomputable def ty1 : TI := ⟨.func, 1, 8, .nilfn⟩
noncomputable def ty2 : TI := ⟨.int .i64, 1, 8, .int .i64 0⟩
noncomputable def ty3 : TI := ⟨.int .i64, 1, 8, .int .i64 0⟩
noncomputable def ty4 : TI := ⟨.bool, 1, 1, .bool false⟩
noncomputable def ty5 : TI := ⟨.int .u8, 1, 1, .int .u8 0⟩
noncomputable def ty6 : TI := ⟨.int .u8, 1, 1, .int .u8 0⟩
noncomputable def ty7 : TI := ⟨.struct [(2, 0), (3, 1), (4, 2), (6, 3)] true, 4, 24, .agg [(.int .i64 0), (.int .i64 0), (.bool false), (.int .u8 0)]⟩
noncomputable def ty8 : TI := ⟨.struct [(2, 0), (3, 1), (4, 2), (6, 3)] true, 4, 24, .agg [(.int .i64 0), (.int .i64 0), (.bool false), (.int .u8 0)]⟩
noncomputable def ty9 : TI := ⟨.string, 1, 16, .str []⟩
noncomputable def ty10 : TI := ⟨.string, 1, 16, .str []⟩
noncomputable def ty11 : TI := ⟨.string, 1, 16, .str []⟩
noncomputable def ty12 : TI := ⟨.int .u64, 1, 8, .int .u64 0⟩
noncomputable def ty13 : TI := ⟨.struct [(9, 0), (12, 1)] false, 2, 24, .agg [(.str []), (.int .u64 0)]⟩
noncomputable def ty14 : TI := ⟨.struct [(9, 0), (12, 1)] false, 2, 24, .agg [(.str []), (.int .u64 0)]⟩
noncomputable def ty15 : TI := ⟨.ptr 99, 1, 8, .nilptr⟩
noncomputable def ty16 : TI := ⟨.ptr 102, 1, 8, .nilptr⟩
noncomputable def ty17 : TI := ⟨.ptr 112, 1, 8, .nilptr⟩
noncomputable def ty18 : TI := ⟨.struct [(17, 0)] false, 1, 8, .agg [.nilptr]⟩
noncomputable def ty19 : TI := ⟨.struct [(17, 0)] false, 1, 8, .agg [.nilptr]⟩
noncomputable def ty20 : TI := ⟨.iface, 1, 16, .niliface⟩
noncomputable def ty21 : TI := ⟨.int .i32, 1, 4, .int .i32 0⟩
noncomputable def ty22 : TI := ⟨.slice 3, 1, 24, .nilsl⟩
noncomputable def ty23 : TI := ⟨.struct [(3, 0), (3, 1), (3, 2), (3, 3), (3, 4), (3, 5), (9, 6), (22, 7)] false, 8, 88, .agg [(.int .i64 0), (.int .i64 0), (.int .i64 0), (.int .i64 0), (.int .i64 0), (.int .i64 0), (.str []), .nilsl]⟩
noncomputable def ty24 : TI := ⟨.struct [(3, 0), (3, 1), (3, 2), (3, 3), (3, 4), (3, 5), (9, 6), (22, 7)] false, 8, 88, .agg [(.int .i64 0), (.int .i64 0), (.int .i64 0), (.int .i64 0), (.int .i64 0), (.int .i64 0), (.str []), .nilsl]⟩
noncomputable def ty25 : TI := ⟨.func, 1, 8, .nilfn⟩
noncomputable def ty26 : TI := ⟨.slice 24, 1, 24, .nilsl⟩
noncomputable def ty27 : TI := ⟨.struct [(3, 0), (3, 1), (3, 2), (3, 3)] true, 4, 32, .agg [(.int .i64 0), (.int .i64 0), (.int .i64 0), (.int .i64 0)]⟩
noncomputable def ty28 : TI := ⟨.struct [(3, 0), (3, 1), (3, 2), (3, 3)] true, 4, 32, .agg [(.int .i64 0), (.int .i64 0), (.int .i64 0), (.int .i64 0)]⟩
noncomputable def ty29 : TI := ⟨.struct [(26, 0), (28, 1)] false, 5, 56, .agg [.nilsl, (.int .i64 0), (.int .i64 0), (.int .i64 0), (.int .i64 0)]⟩
noncomputable def ty30 : TI := ⟨.struct [(26, 0), (28, 1)] false, 5, 56, .agg [.nilsl, (.int .i64 0), (.int .i64 0), (.int .i64 0), (.int .i64 0)]⟩
noncomputable def ty31 : TI := ⟨.func, 1, 8, .nilfn⟩
noncomputable def ty32 : TI := ⟨.func, 1, 8, .nilfn⟩
noncomputable def ty33 : TI := ⟨.func, 1, 8, .nilfn⟩
noncomputable def ty34 : TI := ⟨.slice 30, 1, 24, .nilsl⟩
noncomputable def ty35 : TI := ⟨.struct [(9, 0), (3, 1), (3, 2), (22, 3), (34, 4)] false, 5, 80, .agg [(.str []), (.int .i64 0), (.int .i64 0), .nilsl, .nilsl]⟩
noncomputable def ty36 : TI := ⟨.struct [(9, 0), (3, 1), (3, 2), (22, 3), (34, 4)] false, 5, 80, .agg [(.str []), (.int .i64 0), (.int .i64 0), .nilsl, .nilsl]⟩
noncomputable def ty37 : TI := ⟨.func, 1, 8, .nilfn⟩
noncomputable def ty38 : TI := ⟨.func, 1, 8, .nilfn⟩
noncomputable def ty39 : TI := ⟨.func, 1, 8, .nilfn⟩
noncomputable def ty40 : TI := ⟨.func, 1, 8, .nilfn⟩
noncomputable def ty41 : TI := ⟨.ptr 44, 1, 8, .nilptr⟩
noncomputable def ty42 : TI := ⟨.map 3 75, 1, 8, .nilmap⟩
noncomputable def ty43 : TI := ⟨.struct [(36, 0), (42, 5)] false, 6, 88, .agg [(.str []), (.int .i64 0), (.int .i64 0), .nilsl, .nilsl, .nilmap]⟩
noncomputable def ty44 : TI := ⟨.struct [(36, 0), (42, 5)] false, 6, 88, .agg [(.str []), (.int .i64 0), (.int .i64 0), .nilsl, .nilsl, .nilmap]⟩
noncomputable def ty45 : TI := ⟨.ptr 30, 1, 8, .nilptr⟩
noncomputable def ty46 : TI := ⟨.ptr 24, 1, 8, .nilptr⟩
noncomputable def ty47 : TI := ⟨.func, 1, 8, .nilfn⟩
noncomputable def ty49 : TI := ⟨.func, 1, 8, .nilfn⟩
noncomputable def ty50 : TI := ⟨.func, 1, 8, .nilfn⟩
noncomputable def ty51 : TI := ⟨.func, 1, 8, .nilfn⟩
noncomputable def ty52 : TI := ⟨.slice 55, 1, 24, .nilsl⟩
noncomputable def ty53 : TI := ⟨.func, 1, 8, .nilfn⟩
noncomputable def ty54 : TI := ⟨.slice 4, 1, 24, .nilsl⟩
noncomputable def ty55 : TI := ⟨.slice 4, 1, 24, .nilsl⟩
noncomputable def ty56 : TI := ⟨.func, 1, 8, .nilfn⟩
noncomputable def ty57 : TI := ⟨.func, 1, 8, .nilfn⟩
noncomputable def ty58 : TI := ⟨.func, 1, 8, .nilfn⟩
noncomputable def ty59 : TI := ⟨.func, 1, 8, .nilfn⟩
noncomputable def ty60 : TI := ⟨.func, 1, 8, .nilfn⟩
noncomputable def ty61 : TI := ⟨.func, 1, 8, .nilfn⟩
noncomputable def ty62 : TI := ⟨.func, 1, 8, .nilfn⟩
noncomputable def ty63 : TI := ⟨.func, 1, 8, .nilfn⟩
noncomputable def ty64 : TI := ⟨.func, 1, 8, .nilfn⟩
noncomputable def ty65 : TI := ⟨.func, 1, 8, .nilfn⟩
noncomputable def ty66 : TI := ⟨.func, 1, 8, .nilfn⟩
noncomputable def ty67 : TI := ⟨.func, 1, 8, .nilfn⟩
noncomputable def ty68 : TI := ⟨.func, 1, 8, .nilfn⟩
noncomputable def ty69 : TI := ⟨.func, 1, 8, .nilfn⟩
noncomputable def ty70 : TI := ⟨.func, 1, 8, .nilfn⟩
noncomputable def ty72 : TI := ⟨.func, 1, 8, .nilfn⟩
noncomputable def ty73 : TI := ⟨.func, 1, 8, .nilfn⟩
noncomputable def ty74 : TI := ⟨.struct [(4, 0), (3, 1)] true, 2, 16, .agg [(.bool false), (.int .i64 0)]⟩
noncomputable def ty75 : TI := ⟨.struct [(4, 0), (3, 1)] true, 2, 16, .agg [(.bool false), (.int .i64 0)]⟩
noncomputable def ty76 : TI := ⟨.func, 1, 8, .nilfn⟩
noncomputable def ty77 : TI := ⟨.func, 1, 8, .nilfn⟩
noncomputable def ty78 : TI := ⟨.func, 1, 8, .nilfn⟩
noncomputable def ty79 : TI := ⟨.func, 1, 8, .nilfn⟩
noncomputable def ty80 : TI := ⟨.func, 1, 8, .nilfn⟩
noncomputable def ty81 : TI := ⟨.func, 1, 8, .nilfn⟩
noncomputable def ty82 : TI := ⟨.func, 1, 8, .nilfn⟩
noncomputable def ty84 : TI := ⟨.int .i8, 1, 1, .int .i8 0⟩
noncomputable def ty85 : TI := ⟨.func, 1, 8, .nilfn⟩
noncomputable def ty86 : TI := ⟨.func, 1, 8, .nilfn⟩
noncomputable def ty87 : TI := ⟨.func, 1, 8, .nilfn⟩
noncomputable def ty89 : TI := ⟨.func, 1, 8, .nilfn⟩
noncomputable def ty90 : TI := ⟨.func, 1, 8, .nilfn⟩
noncomputable def ty92 : TI := ⟨.func, 1, 8, .nilfn⟩
noncomputable def ty93 : TI := ⟨.func, 1, 8, .nilfn⟩
noncomputable def ty94 : TI := ⟨.int .u64, 1, 8, .int .u64 0⟩
noncomputable def ty95 : TI := ⟨.func, 1, 8, .nilfn⟩
noncomputable def ty96 : TI := ⟨.func, 1, 8, .nilfn⟩
noncomputable def ty97 : TI := ⟨.func, 1, 8, .nilfn⟩
noncomputable def ty98 : TI := ⟨.struct [(17, 0), (17, 1), (17, 2), (9, 3)] false, 4, 40, .agg [.nilptr, .nilptr, .nilptr, (.str [])]⟩
noncomputable def ty99 : TI := ⟨.struct [(17, 0), (17, 1), (17, 2), (9, 3)] false, 4, 40, .agg [.nilptr, .nilptr, .nilptr, (.str [])]⟩
noncomputable def ty100 : TI := ⟨.array 0 16, 0, 0, .agg []⟩
noncomputable def ty101 : TI := ⟨.struct [(100, 0)] false, 0, 0, .agg []⟩
noncomputable def ty102 : TI := ⟨.struct [(100, 0)] false, 0, 0, .agg []⟩
noncomputable def ty103 : TI := ⟨.func, 1, 8, .nilfn⟩
noncomputable def ty104 : TI := ⟨.int .u32, 1, 4, .int .u32 0⟩
noncomputable def ty105 : TI := ⟨.int .u8, 1, 1, .int .u8 0⟩
noncomputable def ty106 : TI := ⟨.int .u8, 1, 1, .int .u8 0⟩
noncomputable def ty107 : TI := ⟨.func, 1, 8, .nilfn⟩
noncomputable def ty108 : TI := ⟨.ptr 5, 1, 8, .nilptr⟩
noncomputable def ty109 : TI := ⟨.int .i32, 1, 4, .int .i32 0⟩
noncomputable def ty110 : TI := ⟨.int .i32, 1, 4, .int .i32 0⟩
noncomputable def ty111 : TI := ⟨.struct [(12, 0), (12, 1), (104, 2), (105, 3), (5, 4), (5, 5), (106, 6), (107, 7), (108, 8), (109, 9), (110, 10)] false, 11, 48, .agg [(.int .u64 0), (.int .u64 0), (.int .u32 0), (.int .u8 0), (.int .u8 0), (.int .u8 0), (.int .u8 0), .nilfn, .nilptr, (.int .i32 0), (.int .i32 0)]⟩
noncomputable def ty112 : TI := ⟨.struct [(12, 0), (12, 1), (104, 2), (105, 3), (5, 4), (5, 5), (106, 6), (107, 7), (108, 8), (109, 9), (110, 10)] false, 11, 48, .agg [(.int .u64 0), (.int .u64 0), (.int .u32 0), (.int .u8 0), (.int .u8 0), (.int .u8 0), (.int .u8 0), .nilfn, .nilptr, (.int .i32 0), (.int .i32 0)]⟩
noncomputable def ty113 : TI := ⟨.other, 1, 8, .nilptr⟩
noncomputable def ti (t : Nat) : Option TI :=
  bif Nat.blt t 114 then (bif Nat.blt t 57 then (bif Nat.blt t 28 then (bif Nat.blt t 14 then (bif Nat.blt t 7 then (bif Nat.blt t 3 then (bif Nat.blt t 1 then (none) else (bif Nat.blt t 2 then (some ty1) else (some ty2))) else (bif Nat.blt t 5 then (bif Nat.blt t 4 then (some ty3) else (some ty4)) else (bif Nat.blt t 6 then (some ty5) else (some ty6)))) else (bif Nat.blt t 10 then (bif Nat.blt t 8 then (some ty7) else (bif Nat.blt t 9 then (some ty8) else (some ty9))) else (bif Nat.blt t 12 then (bif Nat.blt t 11 then (some ty10) else (some ty11)) else (bif Nat.blt t 13 then (some ty12) else (some ty13))))) else (bif Nat.blt t 21 then (bif Nat.blt t 17 then (bif Nat.blt t 15 then (some ty14) else (bif Nat.blt t 16 then (some ty15) else (some ty16))) else (bif Nat.blt t 19 then (bif Nat.blt t 18 then (some ty17) else (some ty18)) else (bif Nat.blt t 20 then (some ty19) else (some ty20)))) else (bif Nat.blt t 24 then (bif Nat.blt t 22 then (some ty21) else (bif Nat.blt t 23 then (some ty22) else (some ty23))) else (bif Nat.blt t 26 then (bif Nat.blt t 25 then (some ty24) else (some ty25)) else (bif Nat.blt t 27 then (some ty26) else (some ty27)))))) else (bif Nat.blt t 42 then (bif Nat.blt t 35 then (bif Nat.blt t 31 then (bif Nat.blt t 29 then (some ty28) else (bif Nat.blt t 30 then (some ty29) else (some ty30))) else (bif Nat.blt t 33 then (bif Nat.blt t 32 then (some ty31) else (some ty32)) else (bif Nat.blt t 34 then (some ty33) else (some ty34)))) else (bif Nat.blt t 38 then (bif Nat.blt t 36 then (some ty35) else (bif Nat.blt t 37 then (some ty36) else (some ty37))) else (bif Nat.blt t 40 then (bif Nat.blt t 39 then (some ty38) else (some ty39)) else (bif Nat.blt t 41 then (some ty40) else (some ty41))))) else (bif Nat.blt t 49 then (bif Nat.blt t 45 then (bif Nat.blt t 43 then (some ty42) else (bif Nat.blt t 44 then (some ty43) else (some ty44))) else (bif Nat.blt t 47 then (bif Nat.blt t 46 then (some ty45) else (some ty46)) else (bif Nat.blt t 48 then (some ty47) else (none)))) else (bif Nat.blt t 53 then (bif Nat.blt t 51 then (bif Nat.blt t 50 then (some ty49) else (some ty50)) else (bif Nat.blt t 52 then (some ty51) else (some ty52))) else (bif Nat.blt t 55 then (bif Nat.blt t 54 then (some ty53) else (some ty54)) else (bif Nat.blt t 56 then (some ty55) else (some ty56))))))) else (bif Nat.blt t 85 then (bif Nat.blt t 71 then (bif Nat.blt t 64 then (bif Nat.blt t 60 then (bif Nat.blt t 58 then (some ty57) else (bif Nat.blt t 59 then (some ty58) else (some ty59))) else (bif Nat.blt t 62 then (bif Nat.blt t 61 then (some ty60) else (some ty61)) else (bif Nat.blt t 63 then (some ty62) else (some ty63)))) else (bif Nat.blt t 67 then (bif Nat.blt t 65 then (some ty64) else (bif Nat.blt t 66 then (some ty65) else (some ty66))) else (bif Nat.blt t 69 then (bif Nat.blt t 68 then (some ty67) else (some ty68)) else (bif Nat.blt t 70 then (some ty69) else (some ty70))))) else (bif Nat.blt t 78 then (bif Nat.blt t 74 then (bif Nat.blt t 72 then (none) else (bif Nat.blt t 73 then (some ty72) else (some ty73))) else (bif Nat.blt t 76 then (bif Nat.blt t 75 then (some ty74) else (some ty75)) else (bif Nat.blt t 77 then (some ty76) else (some ty77)))) else (bif Nat.blt t 81 then (bif Nat.blt t 79 then (some ty78) else (bif Nat.blt t 80 then (some ty79) else (some ty80))) else (bif Nat.blt t 83 then (bif Nat.blt t 82 then (some ty81) else (some ty82)) else (bif Nat.blt t 84 then (none) else (some ty84)))))) else (bif Nat.blt t 99 then (bif Nat.blt t 92 then (bif Nat.blt t 88 then (bif Nat.blt t 86 then (some ty85) else (bif Nat.blt t 87 then (some ty86) else (some ty87))) else (bif Nat.blt t 90 then (bif Nat.blt t 89 then (none) else (some ty89)) else (bif Nat.blt t 91 then (some ty90) else (none)))) else (bif Nat.blt t 95 then (bif Nat.blt t 93 then (some ty92) else (bif Nat.blt t 94 then (some ty93) else (some ty94))) else (bif Nat.blt t 97 then (bif Nat.blt t 96 then (some ty95) else (some ty96)) else (bif Nat.blt t 98 then (some ty97) else (some ty98))))) else (bif Nat.blt t 106 then (bif Nat.blt t 102 then (bif Nat.blt t 100 then (some ty99) else (bif Nat.blt t 101 then (some ty100) else (some ty101))) else (bif Nat.blt t 104 then (bif Nat.blt t 103 then (some ty102) else (some ty103)) else (bif Nat.blt t 105 then (some ty104) else (some ty105)))) else (bif Nat.blt t 110 then (bif Nat.blt t 108 then (bif Nat.blt t 107 then (some ty106) else (some ty107)) else (bif Nat.blt t 109 then (some ty108) else (some ty109))) else (bif Nat.blt t 112 then (bif Nat.blt t 111 then (some ty110) else (some ty111)) else (bif Nat.blt t 113 then (some ty112) else (some ty113)))))))) else none
noncomputable def fn (f : Nat) : Option FI :=
  bif Nat.blt f 66 then (bif Nat.blt f 33 then (bif Nat.blt f 16 then (bif Nat.blt f 8 then (bif Nat.blt f 4 then (bif Nat.blt f 2 then (bif Nat.blt f 1 then (none) else (none)) else (bif Nat.blt f 3 then (none) else (some fi3))) else (bif Nat.blt f 6 then (bif Nat.blt f 5 then (some fi4) else (some fi5)) else (bif Nat.blt f 7 then (some fi6) else (some fi7)))) else (bif Nat.blt f 12 then (bif Nat.blt f 10 then (bif Nat.blt f 9 then (some fi8) else (some fi9)) else (bif Nat.blt f 11 then (some fi10) else (some fi11))) else (bif Nat.blt f 14 then (bif Nat.blt f 13 then (some fi12) else (some fi13)) else (bif Nat.blt f 15 then (some fi14) else (some fi15))))) else (bif Nat.blt f 24 then (bif Nat.blt f 20 then (bif Nat.blt f 18 then (bif Nat.blt f 17 then (some fi16) else (some fi17)) else (bif Nat.blt f 19 then (some fi18) else (some fi19))) else (bif Nat.blt f 22 then (bif Nat.blt f 21 then (some fi20) else (some fi21)) else (bif Nat.blt f 23 then (some fi22) else (some fi23)))) else (bif Nat.blt f 28 then (bif Nat.blt f 26 then (bif Nat.blt f 25 then (some fi24) else (some fi25)) else (bif Nat.blt f 27 then (some fi26) else (some fi27))) else (bif Nat.blt f 30 then (bif Nat.blt f 29 then (some fi28) else (some fi29)) else (bif Nat.blt f 31 then (some fi30) else (bif Nat.blt f 32 then (some fi31) else (some fi32))))))) else (bif Nat.blt f 49 then (bif Nat.blt f 41 then (bif Nat.blt f 37 then (bif Nat.blt f 35 then (bif Nat.blt f 34 then (some fi33) else (some fi34)) else (bif Nat.blt f 36 then (some fi35) else (some fi36))) else (bif Nat.blt f 39 then (bif Nat.blt f 38 then (some fi37) else (some fi38)) else (bif Nat.blt f 40 then (some fi39) else (some fi40)))) else (bif Nat.blt f 45 then (bif Nat.blt f 43 then (bif Nat.blt f 42 then (some fi41) else (some fi42)) else (bif Nat.blt f 44 then (some fi43) else (some fi44))) else (bif Nat.blt f 47 then (bif Nat.blt f 46 then (some fi45) else (some fi46)) else (bif Nat.blt f 48 then (some fi47) else (some fi48))))) else (bif Nat.blt f 57 then (bif Nat.blt f 53 then (bif Nat.blt f 51 then (bif Nat.blt f 50 then (some fi49) else (none)) else (bif Nat.blt f 52 then (none) else (none))) else (bif Nat.blt f 55 then (bif Nat.blt f 54 then (none) else (none)) else (bif Nat.blt f 56 then (none) else (none)))) else (bif Nat.blt f 61 then (bif Nat.blt f 59 then (bif Nat.blt f 58 then (none) else (none)) else (bif Nat.blt f 60 then (none) else (none))) else (bif Nat.blt f 63 then (bif Nat.blt f 62 then (none) else (none)) else (bif Nat.blt f 64 then (none) else (bif Nat.blt f 65 then (none) else (none)))))))) else none
noncomputable def env : Env := ⟨ti, fn, fun _ => none, fun _ => false, none, fun f => Nat.beq (Nat.land (Nat.shiftRight 67121416 f) 1) 1, fun f => bif Nat.beq f 35 then some [0, 1] else none, fun _ _ => false⟩
set_option maxRecDepth 100000 in
set_option maxHeartbeats 4000000 in
open Go.RowKit Go.Maps in
theorem dl35 : DlfAt Try.prog 35 [0, 1] := by
  refine ⟨⟨_, _, Try.func35, rfl, by kernel_rfl⟩, fun J pd W b g cb ents clock hb hst hsz hint hstep hcall hJ => ?_⟩
  have hlt : b < W.heap.size := (Array.getElem?_eq_some_iff.1 hb).1
  have K0 : Keyed Try.prog 3 := int_keyed Try.underlying3
  have hkeys : ∀ x ∈ ents.toList, ∃ kl, keyOf Try.prog 3 x.key = some kl := fun x hx => by
    obtain ⟨⟨n, h1, h2⟩, _⟩ := hint x hx
    exact ⟨_, by rw [h1]; exact keyOf_int_mk Try.underlying3 h2⟩
  have HD : Aside _ := hcall
  have HS : Aside (DlJ W b J) := hstep
  clear hcall hstep
  go_enter Try.func35, Try.ntmps35
  go_wp2_with (first
    | (at_range; refine wpList_range_dl (W := W) rfl _ 42 3 75 rfl Try.underlying42 rfl hJ HS.out hb hst pd ?_; intro w0 hrg0)
    | go_in)
  go_frame
  go_loopw [8] (fun _ wr => ∃ (seen : Array Nat) (n : Nat), DlS W b clock ents J (fun x => pd x = false ∨ x.born ∉ seen) seen n wr) (fun _ wr => wr.rangeLeft b W.heap.size)
  case atStart => exact ⟨_, _, hrg0⟩
  case round =>
    obtain ⟨seen, n, hrg⟩ := hrel
    go_wp2_with (first
      | (at_next; refine wpList_next_dl (W := W) rfl _ rfl rfl HS.out hst hlt hrg ?_ ?_)
      | go_in)
    · intro ents' hd1 hd2
      go_wp2
      go_end0
      exact ⟨rfl, hrg.keep, ents', hd1, hd2⟩
    · intro e w1 n1 he hrg1 hlt1 hen
      have he' : e ∈ ents.toList := by simpa using he
      obtain ⟨⟨kk, hk1, hk2⟩, vs, hv1, hv2⟩ := hint e he'
      obtain ⟨v0, r0, hv, ⟨_, c0, rfl⟩ | ⟨h, _⟩ | ⟨h, _⟩, v1, r1, rfl, ⟨h, _⟩ | ⟨_, c1, rfl⟩ | ⟨h, _⟩, rfl⟩ := hv2 <;> try (exact absurd h (by decide))
      have hvs : vs = #[.bool c0, .int .i64 c1] := by apply Array.toList_inj.1; rw [hv]
      subst hvs
      have hlt9 := hrg1.lt
      have hbl9 : b < w1.heap.size := Nat.lt_trans hlt hlt9
      have hJ9 : J (w1.alloc (.cells #[.bool c0, .int .i64 c1] 75)) := HS.out w1 _ hrg1.keep (by simp) (fun i _ _ hi => heap_alloc_old w1 _ hi) (fun i hi => szOf_eq (heap_alloc_old w1 _ hi)) rfl rfl rfl
      have hrg9 := hrg1.step hJ9 (by simp) (heap_alloc_old w1 _ hbl9) (heap_alloc_old w1 _ hlt9)
      obtain ⟨⟨gfn, gc, hg1, hg2, hg3⟩, hc⟩ := HD.out _ e he' hJ9 hrg9.lt
      have eg : ∀ args w, (callFunc g args).run Try.prog w = .ok (.enter g args) w := enters_of hg1 hg3 hg2
      rw [hk1, hv1] at hc
      rw [hk1, hv1] at hen
      rw [hk1, hv1]
      cases hp : pd e with
      | false =>
        rw [hp] at hc
        go_wp2_with (first
          | (go_at_fn g; refine hc.mono ?_; rintro e2 w2 ⟨rfl, hJ2, hs2, hb2, hr2⟩)
          | go_in)
        have hrg2 := (hrg9.step hJ2 hs2 hb2 hr2).stays hst he' hp
        go_roundw
        case rel => exact ⟨_, _, hrg2⟩
        case measure => rw [hrg2.left, hrg.left]; exact hlt1
      | true =>
        rw [hp] at hc
        go_wp2_with (first
          | (go_at_fn g; refine hc.mono ?_; rintro e2 w2 ⟨rfl, hJ2, hs2, hb2, hr2⟩; have hrg2 := hrg9.step hJ2 hs2 hb2 hr2)
          | (at_delete; refine wpList_delete_dl (W := W) (e := e) rfl _ _ 42 3 75 rfl K0 Try.underlying42 rfl hk1.symm HS.out hlt hst hsz hkeys he' hp hrg2 ?_; intro w3 n3 hrg3 hle; go_frame)
          | go_in)
        go_roundw
        case rel => exact ⟨_, _, hrg3⟩
        case measure => rw [hrg3.left, hrg.left]; omega
theorem dlf_ok : ∀ f ks, env.dlf f = some ks → DlfAt Try.prog f ks := fun f ks h => by
  have h : (bif Nat.beq f 35 then some [0, 1] else none) = some ks := h
  cases hb : Nat.beq f 35 with
  | true => rw [hb] at h; cases h; have := beq_true hb; subst this; exact dl35
  | false => rw [hb] at h; cases h
theorem srt_ok : ∀ f k, env.srt f k = true → SrtAt Try.prog f k := fun f k h => by cases (h : false = true)
theorem ti_all : (List.range 114).map ti = (List.range 114).map (tiOf Try.prog) := by kernel_rfl
theorem fn_all : (List.range 66).map fn = (List.range 66).map (fnSel 1125899906842616 Try.prog) := by kernel_rfl
theorem ti_none (t : Nat) (h : 114 ≤ t) : ti t = none := by unfold ti; rw [(Heap.blt_false h : Nat.blt t 114 = false)]; rfl
theorem fn_none (t : Nat) (h : 66 ≤ t) : fn t = none := by unfold fn; rw [(Heap.blt_false h : Nat.blt t 66 = false)]; rfl
theorem env_ok : EnvOk env Try.prog := envOk (n := 114) (m := 66) (mask := 1125899906842616) ti_all ti_none fn_all fn_none (.none rfl) dlf_ok srt_ok (by kernel_rfl)
end Go.Proofs.AmEnv
