/- The tables of this program's types and functions for the abstract machine, and that they are the program's. Conditions: none. -/
import Derived.Test.YtbgkdlhkmhpdcaaIrKnownCode0
import Derived.KernelRfl
import Derived.Shelf.Strings.Shaped
import Derived.Test.YtbgkdlhkmhpdcaaProg
set_option maxRecDepth 100000
namespace Go.Proofs
open Go.Shelf
def Try.laysM144_ren : Go.Shelf.Ren := ⟨fun | 144 => 59 | 143 => 76 | 219 => 82 | 217 => 83 | 225 => 84 | 224 => 85 | 267 => 86 | 266 => 87 | 314 => 88 | n => n, fun | 9 => 9 | 4 => 4 | 3 => 3 | 5 => 5 | 46 => 132 | 146 => 137 | 51 => 136 | n => n, fun | 1 => 0 | n => n⟩
theorem Try.laysM144 : Go.Proofs.LaysM.n144 Try.prog Try.laysM144_ren := {
  mixed := by kernel_rfl
  f143 := Try.func76.trans (congrArg some (by kernel_rfl))
  f144 := Try.func59.trans (congrArg some (by kernel_rfl))
  f217 := Try.func83.trans (congrArg some (by kernel_rfl))
  f219 := Try.func82.trans (congrArg some (by kernel_rfl))
  f224 := Try.func85.trans (congrArg some (by kernel_rfl))
  f225 := Try.func84.trans (congrArg some (by kernel_rfl))
  f266 := Try.func87.trans (congrArg some (by kernel_rfl))
  f267 := Try.func86.trans (congrArg some (by kernel_rfl))
  f314 := Try.func88.trans (congrArg some (by kernel_rfl))
  t3 := Try.underlying3
  a3 := Try.isAgg3
  z3 := Try.sizeOf3
  v3 := Try.zeroValue3
  t4 := Try.underlying4
  a4 := Try.isAgg4
  z4 := Try.sizeOf4
  v4 := Try.zeroValue4
  t5 := Try.underlying5
  a5 := Try.isAgg5
  z5 := Try.sizeOf5
  v5 := Try.zeroValue5
  t9 := Try.underlying9
  a9 := Try.isAgg9
  z9 := Try.sizeOf9
  v9 := Try.zeroValue9
  t46 := Try.underlying132
  a46 := Try.isAgg132
  z46 := Try.sizeOf132
  v46 := Try.zeroValue132
  t51 := Try.underlying136
  a51 := Try.isAgg136
  z51 := Try.sizeOf136
  v51 := Try.zeroValue136
  t146 := Try.underlying137
  a146 := Try.isAgg137
  z146 := Try.sizeOf137
  v146 := Try.zeroValue137
  g1 := by kernel_rfl
  i3 := by kernel_rfl
  i4 := by kernel_rfl
  i5 := by kernel_rfl
  i9 := by kernel_rfl
  i46 := by kernel_rfl
  i51 := by kernel_rfl
  i146 := by kernel_rfl
  m1 := by kernel_rfl
  s1_3 := fun w h => Go.Proofs.cell_of_shapedOpen_int (zero := #[.int .i64 0]) (t := 3) h (of_decide_eq_true (by kernel_rfl)) (by kernel_rfl) rfl (by kernel_rfl) (by kernel_rfl) Try.underlying3 }
end Go.Proofs
namespace Go.Proofs.AmEnv
open Go.AM
noncomputable def ty1 : TI := ⟨.func, 1, 8, .nilfn⟩
noncomputable def ty2 : TI := ⟨.int .i64, 1, 8, .int .i64 0⟩
noncomputable def ty3 : TI := ⟨.int .i64, 1, 8, .int .i64 0⟩
noncomputable def ty4 : TI := ⟨.bool, 1, 1, .bool false⟩
noncomputable def ty5 : TI := ⟨.int .u8, 1, 1, .int .u8 0⟩
noncomputable def ty6 : TI := ⟨.int .u8, 1, 1, .int .u8 0⟩
noncomputable def ty7 : TI := ⟨.struct [(2, 0), (3, 1), (4, 2), (6, 3)] true, 4, 24, .agg [(.int .i64 0), (.int .i64 0), (.bool false), (.int .u8 0)]⟩
noncomputable def ty8 : TI := ⟨.struct [(2, 0), (3, 1), (4, 2), (6, 3)] true, 4, 24, .agg [(.int .i64 0), (.int .i64 0), (.bool false), (.int .u8 0)]⟩
noncomputable def ty9 : TI := ⟨.string, 1, 16, .str []⟩
noncomputable def ty10 : TI := ⟨.string, 1, 16, .str []⟩
noncomputable def ty11 : TI := ⟨.string, 1, 16, .str []⟩
noncomputable def ty12 : TI := ⟨.int .u64, 1, 8, .int .u64 0⟩
noncomputable def ty13 : TI := ⟨.struct [(9, 0), (12, 1)] false, 2, 24, .agg [(.str []), (.int .u64 0)]⟩
noncomputable def ty14 : TI := ⟨.struct [(9, 0), (12, 1)] false, 2, 24, .agg [(.str []), (.int .u64 0)]⟩
noncomputable def ty15 : TI := ⟨.ptr 141, 1, 8, .nilptr⟩
noncomputable def ty16 : TI := ⟨.ptr 144, 1, 8, .nilptr⟩
noncomputable def ty17 : TI := ⟨.ptr 152, 1, 8, .nilptr⟩
noncomputable def ty18 : TI := ⟨.struct [(17, 0)] false, 1, 8, .agg [.nilptr]⟩
noncomputable def ty19 : TI := ⟨.struct [(17, 0)] false, 1, 8, .agg [.nilptr]⟩
noncomputable def ty20 : TI := ⟨.iface, 1, 16, .niliface⟩
noncomputable def ty21 : TI := ⟨.int .i32, 1, 4, .int .i32 0⟩
noncomputable def ty22 : TI := ⟨.slice 3, 1, 24, .nilsl⟩
noncomputable def ty23 : TI := ⟨.struct [(3, 0), (3, 1), (3, 2), (3, 3), (3, 4), (3, 5), (9, 6), (22, 7)] false, 8, 88, .agg [(.int .i64 0), (.int .i64 0), (.int .i64 0), (.int .i64 0), (.int .i64 0), (.int .i64 0), (.str []), .nilsl]⟩
noncomputable def ty24 : TI := ⟨.struct [(3, 0), (3, 1), (3, 2), (3, 3), (3, 4), (3, 5), (9, 6), (22, 7)] false, 8, 88, .agg [(.int .i64 0), (.int .i64 0), (.int .i64 0), (.int .i64 0), (.int .i64 0), (.int .i64 0), (.str []), .nilsl]⟩
noncomputable def ty25 : TI := ⟨.struct [(22, 0), (3, 1), (3, 2)] false, 3, 40, .agg [.nilsl, (.int .i64 0), (.int .i64 0)]⟩
noncomputable def ty26 : TI := ⟨.struct [(22, 0), (3, 1), (3, 2)] false, 3, 40, .agg [.nilsl, (.int .i64 0), (.int .i64 0)]⟩
noncomputable def ty27 : TI := ⟨.int .i64, 1, 8, .int .i64 0⟩
noncomputable def ty29 : TI := ⟨.func, 1, 8, .nilfn⟩
noncomputable def ty30 : TI := ⟨.slice 24, 1, 24, .nilsl⟩
noncomputable def ty31 : TI := ⟨.func, 1, 8, .nilfn⟩
noncomputable def ty32 : TI := ⟨.slice 44, 1, 24, .nilsl⟩
noncomputable def ty33 : TI := ⟨.slice 48, 1, 24, .nilsl⟩
noncomputable def ty34 : TI := ⟨.struct [(32, 0), (33, 1)] false, 2, 48, .agg [.nilsl, .nilsl]⟩
noncomputable def ty35 : TI := ⟨.struct [(32, 0), (33, 1)] false, 2, 48, .agg [.nilsl, .nilsl]⟩
noncomputable def ty36 : TI := ⟨.func, 1, 8, .nilfn⟩
noncomputable def ty37 : TI := ⟨.struct [(3, 0), (3, 1), (3, 2), (3, 3)] true, 4, 32, .agg [(.int .i64 0), (.int .i64 0), (.int .i64 0), (.int .i64 0)]⟩
noncomputable def ty38 : TI := ⟨.struct [(3, 0), (3, 1), (3, 2), (3, 3)] true, 4, 32, .agg [(.int .i64 0), (.int .i64 0), (.int .i64 0), (.int .i64 0)]⟩
noncomputable def ty39 : TI := ⟨.struct [(30, 0), (38, 1)] false, 5, 56, .agg [.nilsl, (.int .i64 0), (.int .i64 0), (.int .i64 0), (.int .i64 0)]⟩
noncomputable def ty40 : TI := ⟨.struct [(30, 0), (38, 1)] false, 5, 56, .agg [.nilsl, (.int .i64 0), (.int .i64 0), (.int .i64 0), (.int .i64 0)]⟩
noncomputable def ty41 : TI := ⟨.slice 40, 1, 24, .nilsl⟩
noncomputable def ty42 : TI := ⟨.func, 1, 8, .nilfn⟩
noncomputable def ty43 : TI := ⟨.struct [(9, 0), (3, 1), (3, 2), (3, 3)] true, 4, 40, .agg [(.str []), (.int .i64 0), (.int .i64 0), (.int .i64 0)]⟩
noncomputable def ty44 : TI := ⟨.struct [(9, 0), (3, 1), (3, 2), (3, 3)] true, 4, 40, .agg [(.str []), (.int .i64 0), (.int .i64 0), (.int .i64 0)]⟩
noncomputable def ty45 : TI := ⟨.func, 1, 8, .nilfn⟩
noncomputable def ty46 : TI := ⟨.func, 1, 8, .nilfn⟩
noncomputable def ty47 : TI := ⟨.struct [(9, 0), (3, 1), (3, 2), (22, 3), (41, 4)] false, 5, 80, .agg [(.str []), (.int .i64 0), (.int .i64 0), .nilsl, .nilsl]⟩
noncomputable def ty48 : TI := ⟨.struct [(9, 0), (3, 1), (3, 2), (22, 3), (41, 4)] false, 5, 80, .agg [(.str []), (.int .i64 0), (.int .i64 0), .nilsl, .nilsl]⟩
noncomputable def ty49 : TI := ⟨.func, 1, 8, .nilfn⟩
noncomputable def ty50 : TI := ⟨.func, 1, 8, .nilfn⟩
noncomputable def ty51 : TI := ⟨.func, 1, 8, .nilfn⟩
noncomputable def ty52 : TI := ⟨.func, 1, 8, .nilfn⟩
noncomputable def ty53 : TI := ⟨.func, 1, 8, .nilfn⟩
noncomputable def ty54 : TI := ⟨.func, 1, 8, .nilfn⟩
noncomputable def ty55 : TI := ⟨.ptr 58, 1, 8, .nilptr⟩
noncomputable def ty56 : TI := ⟨.slice 22, 1, 24, .nilsl⟩
noncomputable def ty57 : TI := ⟨.struct [(35, 0), (22, 2), (3, 3), (56, 4), (26, 5), (3, 8)] false, 9, 152, .agg [.nilsl, .nilsl, .nilsl, (.int .i64 0), .nilsl, .nilsl, (.int .i64 0), (.int .i64 0), (.int .i64 0)]⟩
noncomputable def ty58 : TI := ⟨.struct [(35, 0), (22, 2), (3, 3), (56, 4), (26, 5), (3, 8)] false, 9, 152, .agg [.nilsl, .nilsl, .nilsl, (.int .i64 0), .nilsl, .nilsl, (.int .i64 0), (.int .i64 0), (.int .i64 0)]⟩
noncomputable def ty59 : TI := ⟨.struct [(3, 0), (3, 1)] true, 2, 16, .agg [(.int .i64 0), (.int .i64 0)]⟩
noncomputable def ty60 : TI := ⟨.struct [(3, 0), (3, 1)] true, 2, 16, .agg [(.int .i64 0), (.int .i64 0)]⟩
noncomputable def ty61 : TI := ⟨.func, 1, 8, .nilfn⟩
noncomputable def ty62 : TI := ⟨.func, 1, 8, .nilfn⟩
noncomputable def ty63 : TI := ⟨.func, 1, 8, .nilfn⟩
noncomputable def ty64 : TI := ⟨.struct [(35, 0), (48, 2)] false, 7, 128, .agg [.nilsl, .nilsl, (.str []), (.int .i64 0), (.int .i64 0), .nilsl, .nilsl]⟩
noncomputable def ty65 : TI := ⟨.struct [(35, 0), (48, 2)] false, 7, 128, .agg [.nilsl, .nilsl, (.str []), (.int .i64 0), (.int .i64 0), .nilsl, .nilsl]⟩
noncomputable def ty66 : TI := ⟨.func, 1, 8, .nilfn⟩
noncomputable def ty67 : TI := ⟨.slice 74, 1, 24, .nilsl⟩
noncomputable def ty69 : TI := ⟨.func, 1, 8, .nilfn⟩
noncomputable def ty70 : TI := ⟨.func, 1, 8, .nilfn⟩
noncomputable def ty71 : TI := ⟨.struct [(70, 0)] false, 1, 8, .agg [.nilfn]⟩
noncomputable def ty72 : TI := ⟨.struct [(70, 0)] false, 1, 8, .agg [.nilfn]⟩
noncomputable def ty73 : TI := ⟨.struct [(3, 0), (22, 1)] false, 2, 32, .agg [(.int .i64 0), .nilsl]⟩
noncomputable def ty74 : TI := ⟨.struct [(3, 0), (22, 1)] false, 2, 32, .agg [(.int .i64 0), .nilsl]⟩
noncomputable def ty75 : TI := ⟨.func, 1, 8, .nilfn⟩
noncomputable def ty76 : TI := ⟨.func, 1, 8, .nilfn⟩
noncomputable def ty77 : TI := ⟨.func, 1, 8, .nilfn⟩
noncomputable def ty78 : TI := ⟨.func, 1, 8, .nilfn⟩
noncomputable def ty79 : TI := ⟨.func, 1, 8, .nilfn⟩
noncomputable def ty80 : TI := ⟨.func, 1, 8, .nilfn⟩
noncomputable def ty81 : TI := ⟨.func, 1, 8, .nilfn⟩
noncomputable def ty82 : TI := ⟨.func, 1, 8, .nilfn⟩
noncomputable def ty83 : TI := ⟨.slice 98, 1, 24, .nilsl⟩
noncomputable def ty84 : TI := ⟨.func, 1, 8, .nilfn⟩
noncomputable def ty85 : TI := ⟨.func, 1, 8, .nilfn⟩
noncomputable def ty86 : TI := ⟨.func, 1, 8, .nilfn⟩
noncomputable def ty87 : TI := ⟨.func, 1, 8, .nilfn⟩
noncomputable def ty88 : TI := ⟨.func, 1, 8, .nilfn⟩
noncomputable def ty90 : TI := ⟨.func, 1, 8, .nilfn⟩
noncomputable def ty91 : TI := ⟨.func, 1, 8, .nilfn⟩
noncomputable def ty92 : TI := ⟨.ptr 3, 1, 8, .nilptr⟩
noncomputable def ty93 : TI := ⟨.func, 1, 8, .nilfn⟩
noncomputable def ty94 : TI := ⟨.func, 1, 8, .nilfn⟩
noncomputable def ty95 : TI := ⟨.func, 1, 8, .nilfn⟩
noncomputable def ty96 : TI := ⟨.func, 1, 8, .nilfn⟩
noncomputable def ty97 : TI := ⟨.func, 1, 8, .nilfn⟩
noncomputable def ty98 : TI := ⟨.slice 4, 1, 24, .nilsl⟩
noncomputable def ty99 : TI := ⟨.func, 1, 8, .nilfn⟩
noncomputable def ty101 : TI := ⟨.func, 1, 8, .nilfn⟩
noncomputable def ty102 : TI := ⟨.func, 1, 8, .nilfn⟩
noncomputable def ty103 : TI := ⟨.func, 1, 8, .nilfn⟩
noncomputable def ty104 : TI := ⟨.func, 1, 8, .nilfn⟩
noncomputable def ty105 : TI := ⟨.func, 1, 8, .nilfn⟩
noncomputable def ty106 : TI := ⟨.func, 1, 8, .nilfn⟩
noncomputable def ty107 : TI := ⟨.int .i8, 1, 1, .int .i8 0⟩
noncomputable def ty108 : TI := ⟨.func, 1, 8, .nilfn⟩
noncomputable def ty109 : TI := ⟨.func, 1, 8, .nilfn⟩
noncomputable def ty110 : TI := ⟨.func, 1, 8, .nilfn⟩
noncomputable def ty111 : TI := ⟨.func, 1, 8, .nilfn⟩
noncomputable def ty112 : TI := ⟨.func, 1, 8, .nilfn⟩
noncomputable def ty113 : TI := ⟨.func, 1, 8, .nilfn⟩
noncomputable def ty114 : TI := ⟨.func, 1, 8, .nilfn⟩
noncomputable def ty115 : TI := ⟨.func, 1, 8, .nilfn⟩
noncomputable def ty116 : TI := ⟨.func, 1, 8, .nilfn⟩
noncomputable def ty117 : TI := ⟨.func, 1, 8, .nilfn⟩
noncomputable def ty118 : TI := ⟨.func, 1, 8, .nilfn⟩
noncomputable def ty119 : TI := ⟨.func, 1, 8, .nilfn⟩
noncomputable def ty120 : TI := ⟨.func, 1, 8, .nilfn⟩
noncomputable def ty121 : TI := ⟨.func, 1, 8, .nilfn⟩
noncomputable def ty123 : TI := ⟨.func, 1, 8, .nilfn⟩
noncomputable def ty124 : TI := ⟨.func, 1, 8, .nilfn⟩
noncomputable def ty126 : TI := ⟨.func, 1, 8, .nilfn⟩
noncomputable def ty127 : TI := ⟨.func, 1, 8, .nilfn⟩
noncomputable def ty128 : TI := ⟨.func, 1, 8, .nilfn⟩
noncomputable def ty129 : TI := ⟨.func, 1, 8, .nilfn⟩
noncomputable def ty130 : TI := ⟨.func, 1, 8, .nilfn⟩
noncomputable def ty131 : TI := ⟨.func, 1, 8, .nilfn⟩
noncomputable def ty132 : TI := ⟨.int .u64, 1, 8, .int .u64 0⟩
noncomputable def ty133 : TI := ⟨.func, 1, 8, .nilfn⟩
noncomputable def ty134 : TI := ⟨.func, 1, 8, .nilfn⟩
noncomputable def ty135 : TI := ⟨.func, 1, 8, .nilfn⟩
noncomputable def ty136 : TI := ⟨.int .u32, 1, 4, .int .u32 0⟩
noncomputable def ty138 : TI := ⟨.func, 1, 8, .nilfn⟩
noncomputable def ty139 : TI := ⟨.func, 1, 8, .nilfn⟩
noncomputable def ty140 : TI := ⟨.struct [(17, 0), (17, 1), (17, 2), (9, 3)] false, 4, 40, .agg [.nilptr, .nilptr, .nilptr, (.str [])]⟩
noncomputable def ty141 : TI := ⟨.struct [(17, 0), (17, 1), (17, 2), (9, 3)] false, 4, 40, .agg [.nilptr, .nilptr, .nilptr, (.str [])]⟩
noncomputable def ty142 : TI := ⟨.array 0 16, 0, 0, .agg []⟩
noncomputable def ty143 : TI := ⟨.struct [(142, 0)] false, 0, 0, .agg []⟩
noncomputable def ty144 : TI := ⟨.struct [(142, 0)] false, 0, 0, .agg []⟩
noncomputable def ty145 : TI := ⟨.int .u8, 1, 1, .int .u8 0⟩
noncomputable def ty146 : TI := ⟨.int .u8, 1, 1, .int .u8 0⟩
noncomputable def ty147 : TI := ⟨.func, 1, 8, .nilfn⟩
noncomputable def ty148 : TI := ⟨.ptr 5, 1, 8, .nilptr⟩
noncomputable def ty149 : TI := ⟨.int .i32, 1, 4, .int .i32 0⟩
noncomputable def ty150 : TI := ⟨.int .i32, 1, 4, .int .i32 0⟩
noncomputable def ty151 : TI := ⟨.struct [(12, 0), (12, 1), (136, 2), (145, 3), (5, 4), (5, 5), (146, 6), (147, 7), (148, 8), (149, 9), (150, 10)] false, 11, 48, .agg [(.int .u64 0), (.int .u64 0), (.int .u32 0), (.int .u8 0), (.int .u8 0), (.int .u8 0), (.int .u8 0), .nilfn, .nilptr, (.int .i32 0), (.int .i32 0)]⟩
noncomputable def ty152 : TI := ⟨.struct [(12, 0), (12, 1), (136, 2), (145, 3), (5, 4), (5, 5), (146, 6), (147, 7), (148, 8), (149, 9), (150, 10)] false, 11, 48, .agg [(.int .u64 0), (.int .u64 0), (.int .u32 0), (.int .u8 0), (.int .u8 0), (.int .u8 0), (.int .u8 0), .nilfn, .nilptr, (.int .i32 0), (.int .i32 0)]⟩
noncomputable def ty153 : TI := ⟨.other, 1, 8, .nilptr⟩
noncomputable def ti (t : Nat) : Option TI :=
  bif Nat.blt t 154 then (bif Nat.blt t 77 then (bif Nat.blt t 38 then (bif Nat.blt t 19 then (bif Nat.blt t 9 then (bif Nat.blt t 4 then (bif Nat.blt t 2 then (bif Nat.blt t 1 then (none) else (some ty1)) else (bif Nat.blt t 3 then (some ty2) else (some ty3))) else (bif Nat.blt t 6 then (bif Nat.blt t 5 then (some ty4) else (some ty5)) else (bif Nat.blt t 7 then (some ty6) else (bif Nat.blt t 8 then (some ty7) else (some ty8))))) else (bif Nat.blt t 14 then (bif Nat.blt t 11 then (bif Nat.blt t 10 then (some ty9) else (some ty10)) else (bif Nat.blt t 12 then (some ty11) else (bif Nat.blt t 13 then (some ty12) else (some ty13)))) else (bif Nat.blt t 16 then (bif Nat.blt t 15 then (some ty14) else (some ty15)) else (bif Nat.blt t 17 then (some ty16) else (bif Nat.blt t 18 then (some ty17) else (some ty18)))))) else (bif Nat.blt t 28 then (bif Nat.blt t 23 then (bif Nat.blt t 21 then (bif Nat.blt t 20 then (some ty19) else (some ty20)) else (bif Nat.blt t 22 then (some ty21) else (some ty22))) else (bif Nat.blt t 25 then (bif Nat.blt t 24 then (some ty23) else (some ty24)) else (bif Nat.blt t 26 then (some ty25) else (bif Nat.blt t 27 then (some ty26) else (some ty27))))) else (bif Nat.blt t 33 then (bif Nat.blt t 30 then (bif Nat.blt t 29 then (none) else (some ty29)) else (bif Nat.blt t 31 then (some ty30) else (bif Nat.blt t 32 then (some ty31) else (some ty32)))) else (bif Nat.blt t 35 then (bif Nat.blt t 34 then (some ty33) else (some ty34)) else (bif Nat.blt t 36 then (some ty35) else (bif Nat.blt t 37 then (some ty36) else (some ty37))))))) else (bif Nat.blt t 57 then (bif Nat.blt t 47 then (bif Nat.blt t 42 then (bif Nat.blt t 40 then (bif Nat.blt t 39 then (some ty38) else (some ty39)) else (bif Nat.blt t 41 then (some ty40) else (some ty41))) else (bif Nat.blt t 44 then (bif Nat.blt t 43 then (some ty42) else (some ty43)) else (bif Nat.blt t 45 then (some ty44) else (bif Nat.blt t 46 then (some ty45) else (some ty46))))) else (bif Nat.blt t 52 then (bif Nat.blt t 49 then (bif Nat.blt t 48 then (some ty47) else (some ty48)) else (bif Nat.blt t 50 then (some ty49) else (bif Nat.blt t 51 then (some ty50) else (some ty51)))) else (bif Nat.blt t 54 then (bif Nat.blt t 53 then (some ty52) else (some ty53)) else (bif Nat.blt t 55 then (some ty54) else (bif Nat.blt t 56 then (some ty55) else (some ty56)))))) else (bif Nat.blt t 67 then (bif Nat.blt t 62 then (bif Nat.blt t 59 then (bif Nat.blt t 58 then (some ty57) else (some ty58)) else (bif Nat.blt t 60 then (some ty59) else (bif Nat.blt t 61 then (some ty60) else (some ty61)))) else (bif Nat.blt t 64 then (bif Nat.blt t 63 then (some ty62) else (some ty63)) else (bif Nat.blt t 65 then (some ty64) else (bif Nat.blt t 66 then (some ty65) else (some ty66))))) else (bif Nat.blt t 72 then (bif Nat.blt t 69 then (bif Nat.blt t 68 then (some ty67) else (none)) else (bif Nat.blt t 70 then (some ty69) else (bif Nat.blt t 71 then (some ty70) else (some ty71)))) else (bif Nat.blt t 74 then (bif Nat.blt t 73 then (some ty72) else (some ty73)) else (bif Nat.blt t 75 then (some ty74) else (bif Nat.blt t 76 then (some ty75) else (some ty76)))))))) else (bif Nat.blt t 115 then (bif Nat.blt t 96 then (bif Nat.blt t 86 then (bif Nat.blt t 81 then (bif Nat.blt t 79 then (bif Nat.blt t 78 then (some ty77) else (some ty78)) else (bif Nat.blt t 80 then (some ty79) else (some ty80))) else (bif Nat.blt t 83 then (bif Nat.blt t 82 then (some ty81) else (some ty82)) else (bif Nat.blt t 84 then (some ty83) else (bif Nat.blt t 85 then (some ty84) else (some ty85))))) else (bif Nat.blt t 91 then (bif Nat.blt t 88 then (bif Nat.blt t 87 then (some ty86) else (some ty87)) else (bif Nat.blt t 89 then (some ty88) else (bif Nat.blt t 90 then (none) else (some ty90)))) else (bif Nat.blt t 93 then (bif Nat.blt t 92 then (some ty91) else (some ty92)) else (bif Nat.blt t 94 then (some ty93) else (bif Nat.blt t 95 then (some ty94) else (some ty95)))))) else (bif Nat.blt t 105 then (bif Nat.blt t 100 then (bif Nat.blt t 98 then (bif Nat.blt t 97 then (some ty96) else (some ty97)) else (bif Nat.blt t 99 then (some ty98) else (some ty99))) else (bif Nat.blt t 102 then (bif Nat.blt t 101 then (none) else (some ty101)) else (bif Nat.blt t 103 then (some ty102) else (bif Nat.blt t 104 then (some ty103) else (some ty104))))) else (bif Nat.blt t 110 then (bif Nat.blt t 107 then (bif Nat.blt t 106 then (some ty105) else (some ty106)) else (bif Nat.blt t 108 then (some ty107) else (bif Nat.blt t 109 then (some ty108) else (some ty109)))) else (bif Nat.blt t 112 then (bif Nat.blt t 111 then (some ty110) else (some ty111)) else (bif Nat.blt t 113 then (some ty112) else (bif Nat.blt t 114 then (some ty113) else (some ty114))))))) else (bif Nat.blt t 134 then (bif Nat.blt t 124 then (bif Nat.blt t 119 then (bif Nat.blt t 117 then (bif Nat.blt t 116 then (some ty115) else (some ty116)) else (bif Nat.blt t 118 then (some ty117) else (some ty118))) else (bif Nat.blt t 121 then (bif Nat.blt t 120 then (some ty119) else (some ty120)) else (bif Nat.blt t 122 then (some ty121) else (bif Nat.blt t 123 then (none) else (some ty123))))) else (bif Nat.blt t 129 then (bif Nat.blt t 126 then (bif Nat.blt t 125 then (some ty124) else (none)) else (bif Nat.blt t 127 then (some ty126) else (bif Nat.blt t 128 then (some ty127) else (some ty128)))) else (bif Nat.blt t 131 then (bif Nat.blt t 130 then (some ty129) else (some ty130)) else (bif Nat.blt t 132 then (some ty131) else (bif Nat.blt t 133 then (some ty132) else (some ty133)))))) else (bif Nat.blt t 144 then (bif Nat.blt t 139 then (bif Nat.blt t 136 then (bif Nat.blt t 135 then (some ty134) else (some ty135)) else (bif Nat.blt t 137 then (some ty136) else (bif Nat.blt t 138 then (none) else (some ty138)))) else (bif Nat.blt t 141 then (bif Nat.blt t 140 then (some ty139) else (some ty140)) else (bif Nat.blt t 142 then (some ty141) else (bif Nat.blt t 143 then (some ty142) else (some ty143))))) else (bif Nat.blt t 149 then (bif Nat.blt t 146 then (bif Nat.blt t 145 then (some ty144) else (some ty145)) else (bif Nat.blt t 147 then (some ty146) else (bif Nat.blt t 148 then (some ty147) else (some ty148)))) else (bif Nat.blt t 151 then (bif Nat.blt t 150 then (some ty149) else (some ty150)) else (bif Nat.blt t 152 then (some ty151) else (bif Nat.blt t 153 then (some ty152) else (some ty153))))))))) else none
noncomputable def fn (f : Nat) : Option FI :=
  bif Nat.blt f 105 then (bif Nat.blt f 52 then (bif Nat.blt f 26 then (bif Nat.blt f 13 then (bif Nat.blt f 6 then (bif Nat.blt f 3 then (bif Nat.blt f 1 then (none) else (bif Nat.blt f 2 then (none) else (none))) else (bif Nat.blt f 4 then (some fi3) else (bif Nat.blt f 5 then (none) else (some fi5)))) else (bif Nat.blt f 9 then (bif Nat.blt f 7 then (some fi6) else (bif Nat.blt f 8 then (some fi7) else (some fi8))) else (bif Nat.blt f 11 then (bif Nat.blt f 10 then (some fi9) else (some fi10)) else (bif Nat.blt f 12 then (some fi11) else (none))))) else (bif Nat.blt f 19 then (bif Nat.blt f 16 then (bif Nat.blt f 14 then (none) else (bif Nat.blt f 15 then (none) else (none))) else (bif Nat.blt f 17 then (none) else (bif Nat.blt f 18 then (none) else (some fi18)))) else (bif Nat.blt f 22 then (bif Nat.blt f 20 then (some fi19) else (bif Nat.blt f 21 then (some fi20) else (some fi21))) else (bif Nat.blt f 24 then (bif Nat.blt f 23 then (some fi22) else (none)) else (bif Nat.blt f 25 then (none) else (none)))))) else (bif Nat.blt f 39 then (bif Nat.blt f 32 then (bif Nat.blt f 29 then (bif Nat.blt f 27 then (some fi26) else (bif Nat.blt f 28 then (some fi27) else (some fi28))) else (bif Nat.blt f 30 then (some fi29) else (bif Nat.blt f 31 then (some fi30) else (some fi31)))) else (bif Nat.blt f 35 then (bif Nat.blt f 33 then (some fi32) else (bif Nat.blt f 34 then (some fi33) else (some fi34))) else (bif Nat.blt f 37 then (bif Nat.blt f 36 then (some fi35) else (none)) else (bif Nat.blt f 38 then (none) else (none))))) else (bif Nat.blt f 45 then (bif Nat.blt f 42 then (bif Nat.blt f 40 then (none) else (bif Nat.blt f 41 then (some fi40) else (some fi41))) else (bif Nat.blt f 43 then (some fi42) else (bif Nat.blt f 44 then (some fi43) else (some fi44)))) else (bif Nat.blt f 48 then (bif Nat.blt f 46 then (some fi45) else (bif Nat.blt f 47 then (some fi46) else (some fi47))) else (bif Nat.blt f 50 then (bif Nat.blt f 49 then (some fi48) else (some fi49)) else (bif Nat.blt f 51 then (none) else (none))))))) else (bif Nat.blt f 78 then (bif Nat.blt f 65 then (bif Nat.blt f 58 then (bif Nat.blt f 55 then (bif Nat.blt f 53 then (none) else (bif Nat.blt f 54 then (none) else (none))) else (bif Nat.blt f 56 then (some fi55) else (bif Nat.blt f 57 then (none) else (some fi57)))) else (bif Nat.blt f 61 then (bif Nat.blt f 59 then (some fi58) else (bif Nat.blt f 60 then (none) else (some fi60))) else (bif Nat.blt f 63 then (bif Nat.blt f 62 then (some fi61) else (some fi62)) else (bif Nat.blt f 64 then (some fi63) else (some fi64))))) else (bif Nat.blt f 71 then (bif Nat.blt f 68 then (bif Nat.blt f 66 then (some fi65) else (bif Nat.blt f 67 then (none) else (none))) else (bif Nat.blt f 69 then (none) else (bif Nat.blt f 70 then (none) else (none)))) else (bif Nat.blt f 74 then (bif Nat.blt f 72 then (none) else (bif Nat.blt f 73 then (some fi72) else (some fi73))) else (bif Nat.blt f 76 then (bif Nat.blt f 75 then (some fi74) else (some fi75)) else (bif Nat.blt f 77 then (none) else (some fi77)))))) else (bif Nat.blt f 91 then (bif Nat.blt f 84 then (bif Nat.blt f 81 then (bif Nat.blt f 79 then (none) else (bif Nat.blt f 80 then (none) else (some fi80))) else (bif Nat.blt f 82 then (some fi81) else (bif Nat.blt f 83 then (none) else (none)))) else (bif Nat.blt f 87 then (bif Nat.blt f 85 then (none) else (bif Nat.blt f 86 then (none) else (none))) else (bif Nat.blt f 89 then (bif Nat.blt f 88 then (none) else (none)) else (bif Nat.blt f 90 then (none) else (none))))) else (bif Nat.blt f 98 then (bif Nat.blt f 94 then (bif Nat.blt f 92 then (none) else (bif Nat.blt f 93 then (none) else (none))) else (bif Nat.blt f 96 then (bif Nat.blt f 95 then (none) else (none)) else (bif Nat.blt f 97 then (none) else (none)))) else (bif Nat.blt f 101 then (bif Nat.blt f 99 then (none) else (bif Nat.blt f 100 then (none) else (none))) else (bif Nat.blt f 103 then (bif Nat.blt f 102 then (none) else (none)) else (bif Nat.blt f 104 then (none) else (none)))))))) else none
noncomputable def env : Env := ⟨ti, fn, fun _ => none, fun f => Nat.beq f 59, some 0⟩
theorem ti_all : (List.range 154).map ti = (List.range 154).map (tiOf Try.prog) := by kernel_rfl
theorem fn_all : (List.range 105).map fn = (List.range 105).map (fnSel 3848801787092781382766568 Try.prog) := by kernel_rfl
theorem ti_none (t : Nat) (h : 154 ≤ t) : ti t = none := by unfold ti; rw [(Heap.blt_false h : Nat.blt t 154 = false)]; rfl
theorem fn_none (t : Nat) (h : 105 ≤ t) : fn t = none := by unfold fn; rw [(Heap.blt_false h : Nat.blt t 105 = false)]; rfl
theorem env_ok : EnvOk env Try.prog := envOk (n := 154) (m := 105) (mask := 3848801787092781382766568) ti_all ti_none fn_all fn_none (told_of Go.Proofs.Try.laysM144 (fun f h => beq_true h) rfl) (by kernel_rfl)
end Go.Proofs.AmEnv
