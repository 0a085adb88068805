/- The tables of this program's types and functions for the abstract machine, and that they are the program's. Conditions: none. -/
import Derived.Test.YtkbklpkbdccpdaaAmFour
import Derived.KernelRfl
import Derived.Test.YtkbklpkbdccpdaaProg
set_option maxRecDepth 100000
namespace Go.Proofs.AmEnv
open Go.AM
noncomputable def ty1 : TI := ⟨.func, 1, 8, .nilfn⟩
noncomputable def ty2 : TI := ⟨.int .i64, 1, 8, .int .i64 0⟩
noncomputable def ty3 : TI := ⟨.int .i64, 1, 8, .int .i64 0⟩
noncomputable def ty4 : TI := ⟨.bool, 1, 1, .bool false⟩
noncomputable def ty5 : TI := ⟨.int .u8, 1, 1, .int .u8 0⟩
noncomputable def ty6 : TI := ⟨.int .u8, 1, 1, .int .u8 0⟩
noncomputable def ty7 : TI := ⟨.struct [(2, 0), (3, 1), (4, 2), (6, 3)] true, 4, 24, .agg [(.int .i64 0), (.int .i64 0), (.bool false), (.int .u8 0)]⟩
noncomputable def ty8 : TI := ⟨.struct [(2, 0), (3, 1), (4, 2), (6, 3)] true, 4, 24, .agg [(.int .i64 0), (.int .i64 0), (.bool false), (.int .u8 0)]⟩
noncomputable def ty9 : TI := ⟨.string, 1, 16, .str []⟩
noncomputable def ty10 : TI := ⟨.string, 1, 16, .str []⟩
noncomputable def ty11 : TI := ⟨.string, 1, 16, .str []⟩
noncomputable def ty12 : TI := ⟨.int .u64, 1, 8, .int .u64 0⟩
noncomputable def ty13 : TI := ⟨.struct [(9, 0), (12, 1)] false, 2, 24, .agg [(.str []), (.int .u64 0)]⟩
noncomputable def ty14 : TI := ⟨.struct [(9, 0), (12, 1)] false, 2, 24, .agg [(.str []), (.int .u64 0)]⟩
noncomputable def ty15 : TI := ⟨.ptr 53, 1, 8, .nilptr⟩
noncomputable def ty16 : TI := ⟨.ptr 56, 1, 8, .nilptr⟩
noncomputable def ty17 : TI := ⟨.ptr 66, 1, 8, .nilptr⟩
noncomputable def ty18 : TI := ⟨.struct [(17, 0)] false, 1, 8, .agg [.nilptr]⟩
noncomputable def ty19 : TI := ⟨.struct [(17, 0)] false, 1, 8, .agg [.nilptr]⟩
noncomputable def ty20 : TI := ⟨.other, 1, 16, .niliface⟩
noncomputable def ty21 : TI := ⟨.int .i32, 1, 4, .int .i32 0⟩
noncomputable def ty22 : TI := ⟨.func, 1, 8, .nilfn⟩
noncomputable def ty23 : TI := ⟨.slice 9, 1, 24, .nilsl⟩
noncomputable def ty24 : TI := ⟨.func, 1, 8, .nilfn⟩
noncomputable def ty25 : TI := ⟨.func, 1, 8, .nilfn⟩
noncomputable def ty26 : TI := ⟨.func, 1, 8, .nilfn⟩
noncomputable def ty27 : TI := ⟨.func, 1, 8, .nilfn⟩
noncomputable def ty28 : TI := ⟨.func, 1, 8, .nilfn⟩
noncomputable def ty30 : TI := ⟨.func, 1, 8, .nilfn⟩
noncomputable def ty31 : TI := ⟨.func, 1, 8, .nilfn⟩
noncomputable def ty32 : TI := ⟨.func, 1, 8, .nilfn⟩
noncomputable def ty33 : TI := ⟨.int .u64, 1, 8, .int .u64 0⟩
noncomputable def ty34 : TI := ⟨.func, 1, 8, .nilfn⟩
noncomputable def ty35 : TI := ⟨.func, 1, 8, .nilfn⟩
noncomputable def ty36 : TI := ⟨.slice 3, 1, 24, .nilsl⟩
noncomputable def ty37 : TI := ⟨.func, 1, 8, .nilfn⟩
noncomputable def ty38 : TI := ⟨.int .i8, 1, 1, .int .i8 0⟩
noncomputable def ty39 : TI := ⟨.func, 1, 8, .nilfn⟩
noncomputable def ty40 : TI := ⟨.func, 1, 8, .nilfn⟩
noncomputable def ty41 : TI := ⟨.map 3 3, 1, 8, .nilmap⟩
noncomputable def ty43 : TI := ⟨.func, 1, 8, .nilfn⟩
noncomputable def ty44 : TI := ⟨.func, 1, 8, .nilfn⟩
noncomputable def ty46 : TI := ⟨.func, 1, 8, .nilfn⟩
noncomputable def ty47 : TI := ⟨.func, 1, 8, .nilfn⟩
noncomputable def ty48 : TI := ⟨.int .u64, 1, 8, .int .u64 0⟩
noncomputable def ty49 : TI := ⟨.func, 1, 8, .nilfn⟩
noncomputable def ty50 : TI := ⟨.func, 1, 8, .nilfn⟩
noncomputable def ty51 : TI := ⟨.func, 1, 8, .nilfn⟩
noncomputable def ty52 : TI := ⟨.struct [(17, 0), (17, 1), (17, 2), (9, 3)] false, 4, 40, .agg [.nilptr, .nilptr, .nilptr, (.str [])]⟩
noncomputable def ty53 : TI := ⟨.struct [(17, 0), (17, 1), (17, 2), (9, 3)] false, 4, 40, .agg [.nilptr, .nilptr, .nilptr, (.str [])]⟩
noncomputable def ty54 : TI := ⟨.array 0 16, 0, 0, .agg []⟩
noncomputable def ty55 : TI := ⟨.struct [(54, 0)] false, 0, 0, .agg []⟩
noncomputable def ty56 : TI := ⟨.struct [(54, 0)] false, 0, 0, .agg []⟩
noncomputable def ty57 : TI := ⟨.func, 1, 8, .nilfn⟩
noncomputable def ty58 : TI := ⟨.int .u32, 1, 4, .int .u32 0⟩
noncomputable def ty59 : TI := ⟨.int .u8, 1, 1, .int .u8 0⟩
noncomputable def ty60 : TI := ⟨.int .u8, 1, 1, .int .u8 0⟩
noncomputable def ty61 : TI := ⟨.func, 1, 8, .nilfn⟩
noncomputable def ty62 : TI := ⟨.ptr 5, 1, 8, .nilptr⟩
noncomputable def ty63 : TI := ⟨.int .i32, 1, 4, .int .i32 0⟩
noncomputable def ty64 : TI := ⟨.int .i32, 1, 4, .int .i32 0⟩
noncomputable def ty65 : TI := ⟨.struct [(12, 0), (12, 1), (58, 2), (59, 3), (5, 4), (5, 5), (60, 6), (61, 7), (62, 8), (63, 9), (64, 10)] false, 11, 48, .agg [(.int .u64 0), (.int .u64 0), (.int .u32 0), (.int .u8 0), (.int .u8 0), (.int .u8 0), (.int .u8 0), .nilfn, .nilptr, (.int .i32 0), (.int .i32 0)]⟩
noncomputable def ty66 : TI := ⟨.struct [(12, 0), (12, 1), (58, 2), (59, 3), (5, 4), (5, 5), (60, 6), (61, 7), (62, 8), (63, 9), (64, 10)] false, 11, 48, .agg [(.int .u64 0), (.int .u64 0), (.int .u32 0), (.int .u8 0), (.int .u8 0), (.int .u8 0), (.int .u8 0), .nilfn, .nilptr, (.int .i32 0), (.int .i32 0)]⟩
noncomputable def ty67 : TI := ⟨.other, 1, 8, .nilptr⟩
noncomputable def ti (t : Nat) : Option TI :=
  bif Nat.blt t 68 then (bif Nat.blt t 34 then (bif Nat.blt t 17 then (bif Nat.blt t 8 then (bif Nat.blt t 4 then (bif Nat.blt t 2 then (bif Nat.blt t 1 then (none) else (some ty1)) else (bif Nat.blt t 3 then (some ty2) else (some ty3))) else (bif Nat.blt t 6 then (bif Nat.blt t 5 then (some ty4) else (some ty5)) else (bif Nat.blt t 7 then (some ty6) else (some ty7)))) else (bif Nat.blt t 12 then (bif Nat.blt t 10 then (bif Nat.blt t 9 then (some ty8) else (some ty9)) else (bif Nat.blt t 11 then (some ty10) else (some ty11))) else (bif Nat.blt t 14 then (bif Nat.blt t 13 then (some ty12) else (some ty13)) else (bif Nat.blt t 15 then (some ty14) else (bif Nat.blt t 16 then (some ty15) else (some ty16)))))) else (bif Nat.blt t 25 then (bif Nat.blt t 21 then (bif Nat.blt t 19 then (bif Nat.blt t 18 then (some ty17) else (some ty18)) else (bif Nat.blt t 20 then (some ty19) else (some ty20))) else (bif Nat.blt t 23 then (bif Nat.blt t 22 then (some ty21) else (some ty22)) else (bif Nat.blt t 24 then (some ty23) else (some ty24)))) else (bif Nat.blt t 29 then (bif Nat.blt t 27 then (bif Nat.blt t 26 then (some ty25) else (some ty26)) else (bif Nat.blt t 28 then (some ty27) else (some ty28))) else (bif Nat.blt t 31 then (bif Nat.blt t 30 then (none) else (some ty30)) else (bif Nat.blt t 32 then (some ty31) else (bif Nat.blt t 33 then (some ty32) else (some ty33))))))) else (bif Nat.blt t 51 then (bif Nat.blt t 42 then (bif Nat.blt t 38 then (bif Nat.blt t 36 then (bif Nat.blt t 35 then (some ty34) else (some ty35)) else (bif Nat.blt t 37 then (some ty36) else (some ty37))) else (bif Nat.blt t 40 then (bif Nat.blt t 39 then (some ty38) else (some ty39)) else (bif Nat.blt t 41 then (some ty40) else (some ty41)))) else (bif Nat.blt t 46 then (bif Nat.blt t 44 then (bif Nat.blt t 43 then (none) else (some ty43)) else (bif Nat.blt t 45 then (some ty44) else (none))) else (bif Nat.blt t 48 then (bif Nat.blt t 47 then (some ty46) else (some ty47)) else (bif Nat.blt t 49 then (some ty48) else (bif Nat.blt t 50 then (some ty49) else (some ty50)))))) else (bif Nat.blt t 59 then (bif Nat.blt t 55 then (bif Nat.blt t 53 then (bif Nat.blt t 52 then (some ty51) else (some ty52)) else (bif Nat.blt t 54 then (some ty53) else (some ty54))) else (bif Nat.blt t 57 then (bif Nat.blt t 56 then (some ty55) else (some ty56)) else (bif Nat.blt t 58 then (some ty57) else (some ty58)))) else (bif Nat.blt t 63 then (bif Nat.blt t 61 then (bif Nat.blt t 60 then (some ty59) else (some ty60)) else (bif Nat.blt t 62 then (some ty61) else (some ty62))) else (bif Nat.blt t 65 then (bif Nat.blt t 64 then (some ty63) else (some ty64)) else (bif Nat.blt t 66 then (some ty65) else (bif Nat.blt t 67 then (some ty66) else (some ty67)))))))) else none
noncomputable def fn (f : Nat) : Option FI :=
  bif Nat.blt f 50 then (bif Nat.blt f 25 then (bif Nat.blt f 12 then (bif Nat.blt f 6 then (bif Nat.blt f 3 then (bif Nat.blt f 1 then (fiOf Try.f0) else (bif Nat.blt f 2 then (fiOf Try.f1) else (fiOf Try.f2))) else (bif Nat.blt f 4 then (fiOf Try.f3) else (bif Nat.blt f 5 then (fiOf Try.f4) else (fiOf Try.f5)))) else (bif Nat.blt f 9 then (bif Nat.blt f 7 then (fiOf Try.f6) else (bif Nat.blt f 8 then (fiOf Try.f7) else (fiOf Try.f8))) else (bif Nat.blt f 10 then (fiOf Try.f9) else (bif Nat.blt f 11 then (fiOf Try.f10) else (fiOf Try.f11))))) else (bif Nat.blt f 18 then (bif Nat.blt f 15 then (bif Nat.blt f 13 then (fiOf Try.f12) else (bif Nat.blt f 14 then (fiOf Try.f13) else (fiOf Try.f14))) else (bif Nat.blt f 16 then (fiOf Try.f15) else (bif Nat.blt f 17 then (fiOf Try.f16) else (fiOf Try.f17)))) else (bif Nat.blt f 21 then (bif Nat.blt f 19 then (fiOf Try.f18) else (bif Nat.blt f 20 then (fiOf Try.f19) else (fiOf Try.f20))) else (bif Nat.blt f 23 then (bif Nat.blt f 22 then (fiOf Try.f21) else (fiOf Try.f22)) else (bif Nat.blt f 24 then (fiOf Try.f23) else (fiOf Try.f24)))))) else (bif Nat.blt f 37 then (bif Nat.blt f 31 then (bif Nat.blt f 28 then (bif Nat.blt f 26 then (fiOf Try.f25) else (bif Nat.blt f 27 then (fiOf Try.f26) else (fiOf Try.f27))) else (bif Nat.blt f 29 then (fiOf Try.f28) else (bif Nat.blt f 30 then (fiOf Try.f29) else (fiOf Try.f30)))) else (bif Nat.blt f 34 then (bif Nat.blt f 32 then (fiOf Try.f31) else (bif Nat.blt f 33 then (fiOf Try.f32) else (fiOf Try.f33))) else (bif Nat.blt f 35 then (fiOf Try.f34) else (bif Nat.blt f 36 then (fiOf Try.f35) else (fiOf Try.f36))))) else (bif Nat.blt f 43 then (bif Nat.blt f 40 then (bif Nat.blt f 38 then (fiOf Try.f37) else (bif Nat.blt f 39 then (fiOf Try.f38) else (fiOf Try.f39))) else (bif Nat.blt f 41 then (fiOf Try.f40) else (bif Nat.blt f 42 then (fiOf Try.f41) else (fiOf Try.f42)))) else (bif Nat.blt f 46 then (bif Nat.blt f 44 then (fiOf Try.f43) else (bif Nat.blt f 45 then (fiOf Try.f44) else (fiOf Try.f45))) else (bif Nat.blt f 48 then (bif Nat.blt f 47 then (fiOf Try.f46) else (fiOf Try.f47)) else (bif Nat.blt f 49 then (fiOf Try.f48) else (fiOf Try.f49))))))) else none
noncomputable def env : Env := ⟨ti, fn, fun _ => none⟩
theorem ti_all : (List.range 68).map ti = (List.range 68).map (tiOf Try.prog) := by kernel_rfl
theorem fn_all : (List.range 50).map fn = (List.range 50).map (fnOf Try.prog) := by kernel_rfl
theorem ti_none (t : Nat) (h : 68 ≤ t) : ti t = none := by unfold ti; rw [(Heap.blt_false h : Nat.blt t 68 = false)]; rfl
theorem fn_none (t : Nat) (h : 50 ≤ t) : fn t = none := by unfold fn; rw [(Heap.blt_false h : Nat.blt t 50 = false)]; rfl
theorem env_ok : EnvOk env Try.prog := envOk (n := 68) (m := 50) ti_all ti_none fn_all fn_none (by kernel_rfl)
end Go.Proofs.AmEnv
