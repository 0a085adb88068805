/- The tables of this program's types and functions for the abstract machine, and that they are the program's. Conditions: none. -/
import Derived.Test.YtcipkemddanppaaGreatLoopsKnownCode1
import Derived.KernelRfl
import Derived.Shelf.Strings.Shaped
import Derived.Shelf.SortM.Plain
import Derived.Shelf.SortM.SortNone
import Derived.Shelf.SlGeneric
import Derived.Test.YtcipkemddanppaaGreatProg
set_option maxRecDepth 100000
namespace Go.Proofs
open Go.Shelf
def Tryz.laysM144_ren : Go.Shelf.Ren := ⟨fun | 144 => 148 | 143 => 165 | 219 => 172 | 217 => 175 | 225 => 176 | 224 => 177 | 267 => 178 | 266 => 179 | 314 => 180 | n => n, fun | 9 => 9 | 4 => 4 | 3 => 3 | 5 => 5 | 46 => 152 | 146 => 191 | 51 => 176 | n => n, fun | 1 => 0 | n => n⟩
theorem Tryz.laysM144 : Go.Proofs.LaysM.n144 Tryz.prog Tryz.laysM144_ren := {
  mixed := by kernel_rfl
  f143 := Tryz.func165.trans (congrArg some (by kernel_rfl))
  f144 := Tryz.func148.trans (congrArg some (by kernel_rfl))
  f217 := Tryz.func175.trans (congrArg some (by kernel_rfl))
  f219 := Tryz.func172.trans (congrArg some (by kernel_rfl))
  f224 := Tryz.func177.trans (congrArg some (by kernel_rfl))
  f225 := Tryz.func176.trans (congrArg some (by kernel_rfl))
  f266 := Tryz.func179.trans (congrArg some (by kernel_rfl))
  f267 := Tryz.func178.trans (congrArg some (by kernel_rfl))
  f314 := Tryz.func180.trans (congrArg some (by kernel_rfl))
  t3 := Tryz.underlying3
  a3 := Tryz.isAgg3
  z3 := Tryz.sizeOf3
  v3 := Tryz.zeroValue3
  t4 := Tryz.underlying4
  a4 := Tryz.isAgg4
  z4 := Tryz.sizeOf4
  v4 := Tryz.zeroValue4
  t5 := Tryz.underlying5
  a5 := Tryz.isAgg5
  z5 := Tryz.sizeOf5
  v5 := Tryz.zeroValue5
  t9 := Tryz.underlying9
  a9 := Tryz.isAgg9
  z9 := Tryz.sizeOf9
  v9 := Tryz.zeroValue9
  t46 := Tryz.underlying152
  a46 := Tryz.isAgg152
  z46 := Tryz.sizeOf152
  v46 := Tryz.zeroValue152
  t51 := Tryz.underlying176
  a51 := Tryz.isAgg176
  z51 := Tryz.sizeOf176
  v51 := Tryz.zeroValue176
  t146 := Tryz.underlying191
  a146 := Tryz.isAgg191
  z146 := Tryz.sizeOf191
  v146 := Tryz.zeroValue191
  g1 := by kernel_rfl
  i3 := by kernel_rfl
  i4 := by kernel_rfl
  i5 := by kernel_rfl
  i9 := by kernel_rfl
  i46 := by kernel_rfl
  i51 := by kernel_rfl
  i146 := by kernel_rfl
  m1 := by kernel_rfl
  s1_3 := fun w h => Go.Proofs.cell_of_shapedOpen_int (zero := #[.int .i64 0]) (t := 3) h (of_decide_eq_true (by kernel_rfl)) (by kernel_rfl) rfl (by kernel_rfl) (by kernel_rfl) Tryz.underlying3 }
end Go.Proofs
namespace Go.Proofs
open Go.Shelf
def Tryz.sorted38_ren : Go.Shelf.Ren := ⟨fun | 6 => 38 | 8 => 71 | 9 => 72 | 11 => 113 | 13 => 115 | 12 => 114 | 23 => 142 | 24 => 143 | 14 => 133 | 15 => 134 | 16 => 135 | 17 => 136 | 18 => 137 | 19 => 138 | 20 => 139 | 21 => 140 | 22 => 141 | 25 => 158 | 26 => 159 | 27 => 160 | 28 => 161 | 29 => 162 | 30 => 163 | 31 => 171 | n => n, fun | 26 => 3 | 28 => 73 | 24 => 22 | 0 => 0 | 3 => 3 | 37 => 152 | 48 => 176 | 50 => 178 | 4 => 4 | 40 => 170 | 39 => 169 | 45 => 126 | 5 => 5 | 9 => 9 | 51 => 195 | 55 => 120 | 57 => 209 | 58 => 162 | 33 => 94 | n => n, fun | n => n⟩
theorem Tryz.sorted38 : Go.Proofs.SlLaysZI.n6 Tryz.prog Tryz.sorted38_ren := {
  mixed := by kernel_rfl
  f6 := ⟨Tryz.f38.name, by decide, Tryz.func38.trans (congrArg some (by kernel_rfl))⟩
  f8 := ⟨Tryz.f71.name, by decide, Tryz.func71.trans (congrArg some (by kernel_rfl))⟩
  f11 := ⟨Tryz.f113.name, by decide, Tryz.func113.trans (congrArg some (by kernel_rfl))⟩
  t0 := Tryz.underlying0
  a0 := Tryz.isAgg0
  z0 := Tryz.sizeOf0
  v0 := Tryz.zeroValue0
  t24 := Tryz.underlying22
  a24 := Tryz.isAgg22
  z24 := Tryz.sizeOf22
  v24 := Tryz.zeroValue22
  t26 := Tryz.underlying3
  a26 := Tryz.isAgg3
  z26 := Tryz.sizeOf3
  v26 := Tryz.zeroValue3
  t28 := Tryz.underlying73
  a28 := Tryz.isAgg73
  z28 := Tryz.sizeOf73
  v28 := Tryz.zeroValue73
  i26 := by kernel_rfl }
def Tryz.sort72_ren : Go.Shelf.Ren := ⟨fun | 5 => 72 | 8 => 115 | 7 => 114 | 19 => 142 | 20 => 143 | 10 => 133 | 11 => 134 | 12 => 135 | 13 => 136 | 14 => 137 | 15 => 138 | 16 => 139 | 17 => 140 | 18 => 141 | 30 => 158 | 31 => 159 | 32 => 160 | 33 => 161 | 34 => 162 | 35 => 163 | 40 => 171 | n => n, fun | 23 => 22 | 25 => 3 | 3 => 3 | 32 => 152 | 22 => 22 | 0 => 0 | 44 => 176 | 46 => 178 | 4 => 4 | 36 => 170 | 35 => 169 | 41 => 126 | 5 => 5 | 9 => 9 | 53 => 195 | 57 => 120 | 63 => 209 | 64 => 162 | n => n, fun | n => n⟩
theorem Tryz.sort72 : Go.Proofs.SlLaysM.n5 Tryz.prog Tryz.sort72_ren := {
  mixed := by kernel_rfl
  f5 := ⟨Tryz.f72.name, by decide, Tryz.func72.trans (congrArg some (by kernel_rfl))⟩
  f7 := ⟨Tryz.f114.name, by decide, Tryz.func114.trans (congrArg some (by kernel_rfl))⟩
  f8 := Tryz.func115.trans (congrArg some (by kernel_rfl))
  f10 := ⟨Tryz.f133.name, by decide, Tryz.func133.trans (congrArg some (by kernel_rfl))⟩
  f11 := ⟨Tryz.f134.name, by decide, Tryz.func134.trans (congrArg some (by kernel_rfl))⟩
  f12 := ⟨Tryz.f135.name, by decide, Tryz.func135.trans (congrArg some (by kernel_rfl))⟩
  f13 := ⟨Tryz.f136.name, by decide, Tryz.func136.trans (congrArg some (by kernel_rfl))⟩
  f14 := ⟨Tryz.f137.name, by decide, Tryz.func137.trans (congrArg some (by kernel_rfl))⟩
  f15 := ⟨Tryz.f138.name, by decide, Tryz.func138.trans (congrArg some (by kernel_rfl))⟩
  f16 := ⟨Tryz.f139.name, by decide, Tryz.func139.trans (congrArg some (by kernel_rfl))⟩
  f17 := ⟨Tryz.f140.name, by decide, Tryz.func140.trans (congrArg some (by kernel_rfl))⟩
  f18 := ⟨Tryz.f141.name, by decide, Tryz.func141.trans (congrArg some (by kernel_rfl))⟩
  f19 := Tryz.func142.trans (congrArg some (by kernel_rfl))
  f20 := Tryz.func143.trans (congrArg some (by kernel_rfl))
  f30 := ⟨Tryz.f158.name, by decide, Tryz.func158.trans (congrArg some (by kernel_rfl))⟩
  f31 := Tryz.func159.trans (congrArg some (by kernel_rfl))
  f32 := Tryz.func160.trans (congrArg some (by kernel_rfl))
  f33 := ⟨Tryz.f161.name, by decide, Tryz.func161.trans (congrArg some (by kernel_rfl))⟩
  f34 := ⟨Tryz.f162.name, by decide, Tryz.func162.trans (congrArg some (by kernel_rfl))⟩
  f35 := ⟨Tryz.f163.name, by decide, Tryz.func163.trans (congrArg some (by kernel_rfl))⟩
  f40 := ⟨Tryz.f171.name, by decide, Tryz.func171.trans (congrArg some (by kernel_rfl))⟩
  t0 := Tryz.underlying0
  a0 := Tryz.isAgg0
  z0 := Tryz.sizeOf0
  v0 := Tryz.zeroValue0
  t3 := Tryz.underlying3
  a3 := Tryz.isAgg3
  z3 := Tryz.sizeOf3
  v3 := Tryz.zeroValue3
  t4 := Tryz.underlying4
  a4 := Tryz.isAgg4
  z4 := Tryz.sizeOf4
  v4 := Tryz.zeroValue4
  t5 := Tryz.underlying5
  a5 := Tryz.isAgg5
  z5 := Tryz.sizeOf5
  v5 := Tryz.zeroValue5
  t9 := Tryz.underlying9
  a9 := Tryz.isAgg9
  z9 := Tryz.sizeOf9
  v9 := Tryz.zeroValue9
  t22 := Tryz.underlying22
  a22 := Tryz.isAgg22
  z22 := Tryz.sizeOf22
  v22 := Tryz.zeroValue22
  t23 := Tryz.underlying22
  a23 := Tryz.isAgg22
  z23 := Tryz.sizeOf22
  v23 := Tryz.zeroValue22
  t25 := Tryz.underlying3
  a25 := Tryz.isAgg3
  z25 := Tryz.sizeOf3
  v25 := Tryz.zeroValue3
  t32 := Tryz.underlying152
  a32 := Tryz.isAgg152
  z32 := Tryz.sizeOf152
  v32 := Tryz.zeroValue152
  t35 := Tryz.underlying169
  a35 := Tryz.isAgg169
  z35 := Tryz.sizeOf169
  v35 := Tryz.zeroValue169
  t36 := Tryz.underlying170
  a36 := Tryz.isAgg170
  z36 := Tryz.sizeOf170
  v36 := Tryz.zeroValue170
  t41 := Tryz.underlying126
  a41 := Tryz.isAgg126
  z41 := Tryz.sizeOf126
  v41 := Tryz.zeroValue126
  t44 := Tryz.underlying176
  a44 := Tryz.isAgg176
  z44 := Tryz.sizeOf176
  v44 := Tryz.zeroValue176
  t46 := Tryz.underlying178
  a46 := Tryz.isAgg178
  z46 := Tryz.sizeOf178
  v46 := Tryz.zeroValue178
  t53 := Tryz.underlying195
  a53 := Tryz.isAgg195
  z53 := Tryz.sizeOf195
  v53 := Tryz.zeroValue195
  t57 := Tryz.underlying120
  a57 := Tryz.isAgg120
  z57 := Tryz.sizeOf120
  v57 := Tryz.zeroValue120
  t63 := Tryz.underlying209
  a63 := Tryz.isAgg209
  z63 := Tryz.sizeOf209
  v63 := Tryz.zeroValue209
  t64 := Tryz.underlying162
  a64 := Tryz.isAgg162
  z64 := Tryz.sizeOf162
  v64 := Tryz.zeroValue162 }
end Go.Proofs
namespace Go.Proofs.AmEnv
open Go.AM
noncomputable def ty1 : TI := ⟨.func, 1, 8, .nilfn⟩
noncomputable def ty2 : TI := ⟨.int .i64, 1, 8, .int .i64 0⟩
noncomputable def ty3 : TI := ⟨.int .i64, 1, 8, .int .i64 0⟩
noncomputable def ty4 : TI := ⟨.bool, 1, 1, .bool false⟩
noncomputable def ty5 : TI := ⟨.int .u8, 1, 1, .int .u8 0⟩
noncomputable def ty6 : TI := ⟨.int .u8, 1, 1, .int .u8 0⟩
noncomputable def ty7 : TI := ⟨.struct [(2, 0), (3, 1), (4, 2), (6, 3)] true, 4, 24, .agg [(.int .i64 0), (.int .i64 0), (.bool false), (.int .u8 0)]⟩
noncomputable def ty8 : TI := ⟨.struct [(2, 0), (3, 1), (4, 2), (6, 3)] true, 4, 24, .agg [(.int .i64 0), (.int .i64 0), (.bool false), (.int .u8 0)]⟩
noncomputable def ty9 : TI := ⟨.string, 1, 16, .str []⟩
noncomputable def ty10 : TI := ⟨.string, 1, 16, .str []⟩
noncomputable def ty11 : TI := ⟨.string, 1, 16, .str []⟩
noncomputable def ty12 : TI := ⟨.int .u64, 1, 8, .int .u64 0⟩
noncomputable def ty13 : TI := ⟨.struct [(9, 0), (12, 1)] false, 2, 24, .agg [(.str []), (.int .u64 0)]⟩
noncomputable def ty14 : TI := ⟨.struct [(9, 0), (12, 1)] false, 2, 24, .agg [(.str []), (.int .u64 0)]⟩
noncomputable def ty15 : TI := ⟨.ptr 217, 1, 8, .nilptr⟩
noncomputable def ty16 : TI := ⟨.ptr 220, 1, 8, .nilptr⟩
noncomputable def ty17 : TI := ⟨.ptr 228, 1, 8, .nilptr⟩
noncomputable def ty18 : TI := ⟨.struct [(17, 0)] false, 1, 8, .agg [.nilptr]⟩
noncomputable def ty19 : TI := ⟨.struct [(17, 0)] false, 1, 8, .agg [.nilptr]⟩
noncomputable def ty20 : TI := ⟨.iface, 1, 16, .niliface⟩
noncomputable def ty21 : TI := ⟨.int .i32, 1, 4, .int .i32 0⟩
noncomputable def ty22 : TI := ⟨.slice 3, 1, 24, .nilsl⟩
noncomputable def ty23 : TI := ⟨.struct [(3, 0), (3, 1), (3, 2), (3, 3), (3, 4), (3, 5), (9, 6), (22, 7)] false, 8, 88, .agg [(.int .i64 0), (.int .i64 0), (.int .i64 0), (.int .i64 0), (.int .i64 0), (.int .i64 0), (.str []), .nilsl]⟩
noncomputable def ty24 : TI := ⟨.struct [(3, 0), (3, 1), (3, 2), (3, 3), (3, 4), (3, 5), (9, 6), (22, 7)] false, 8, 88, .agg [(.int .i64 0), (.int .i64 0), (.int .i64 0), (.int .i64 0), (.int .i64 0), (.int .i64 0), (.str []), .nilsl]⟩
noncomputable def ty25 : TI := ⟨.func, 1, 8, .nilfn⟩
noncomputable def ty26 : TI := ⟨.slice 24, 1, 24, .nilsl⟩
noncomputable def ty27 : TI := ⟨.func, 1, 8, .nilfn⟩
noncomputable def ty28 : TI := ⟨.slice 26, 1, 24, .nilsl⟩
noncomputable def ty29 : TI := ⟨.slice 46, 1, 24, .nilsl⟩
noncomputable def ty30 : TI := ⟨.struct [(9, 0), (3, 1), (3, 2), (22, 3), (29, 4)] false, 5, 80, .agg [(.str []), (.int .i64 0), (.int .i64 0), .nilsl, .nilsl]⟩
noncomputable def ty31 : TI := ⟨.struct [(9, 0), (3, 1), (3, 2), (22, 3), (29, 4)] false, 5, 80, .agg [(.str []), (.int .i64 0), (.int .i64 0), .nilsl, .nilsl]⟩
noncomputable def ty32 : TI := ⟨.func, 1, 8, .nilfn⟩
noncomputable def ty33 : TI := ⟨.slice 31, 1, 24, .nilsl⟩
noncomputable def ty34 : TI := ⟨.slice 93, 1, 24, .nilsl⟩
noncomputable def ty35 : TI := ⟨.struct [(34, 0), (33, 1)] false, 2, 48, .agg [.nilsl, .nilsl]⟩
noncomputable def ty36 : TI := ⟨.struct [(34, 0), (33, 1)] false, 2, 48, .agg [.nilsl, .nilsl]⟩
noncomputable def ty37 : TI := ⟨.func, 1, 8, .nilfn⟩
noncomputable def ty38 : TI := ⟨.func, 1, 8, .nilfn⟩
noncomputable def ty39 : TI := ⟨.func, 1, 8, .nilfn⟩
noncomputable def ty40 : TI := ⟨.func, 1, 8, .nilfn⟩
noncomputable def ty41 : TI := ⟨.func, 1, 8, .nilfn⟩
noncomputable def ty42 : TI := ⟨.func, 1, 8, .nilfn⟩
noncomputable def ty43 : TI := ⟨.struct [(3, 0), (3, 1), (3, 2), (3, 3)] true, 4, 32, .agg [(.int .i64 0), (.int .i64 0), (.int .i64 0), (.int .i64 0)]⟩
noncomputable def ty44 : TI := ⟨.struct [(3, 0), (3, 1), (3, 2), (3, 3)] true, 4, 32, .agg [(.int .i64 0), (.int .i64 0), (.int .i64 0), (.int .i64 0)]⟩
noncomputable def ty45 : TI := ⟨.struct [(26, 0), (44, 1)] false, 5, 56, .agg [.nilsl, (.int .i64 0), (.int .i64 0), (.int .i64 0), (.int .i64 0)]⟩
noncomputable def ty46 : TI := ⟨.struct [(26, 0), (44, 1)] false, 5, 56, .agg [.nilsl, (.int .i64 0), (.int .i64 0), (.int .i64 0), (.int .i64 0)]⟩
noncomputable def ty47 : TI := ⟨.slice 51, 1, 24, .nilsl⟩
noncomputable def ty48 : TI := ⟨.func, 1, 8, .nilfn⟩
noncomputable def ty49 : TI := ⟨.func, 1, 8, .nilfn⟩
noncomputable def ty50 : TI := ⟨.struct [(3, 0), (22, 1)] false, 2, 32, .agg [(.int .i64 0), .nilsl]⟩
noncomputable def ty51 : TI := ⟨.struct [(3, 0), (22, 1)] false, 2, 32, .agg [(.int .i64 0), .nilsl]⟩
noncomputable def ty52 : TI := ⟨.func, 1, 8, .nilfn⟩
noncomputable def ty53 : TI := ⟨.func, 1, 8, .nilfn⟩
noncomputable def ty54 : TI := ⟨.func, 1, 8, .nilfn⟩
noncomputable def ty55 : TI := ⟨.func, 1, 8, .nilfn⟩
noncomputable def ty56 : TI := ⟨.func, 1, 8, .nilfn⟩
noncomputable def ty57 : TI := ⟨.int .i64, 1, 8, .int .i64 0⟩
noncomputable def ty58 : TI := ⟨.func, 1, 8, .nilfn⟩
noncomputable def ty59 : TI := ⟨.func, 1, 8, .nilfn⟩
noncomputable def ty60 : TI := ⟨.struct [(22, 0), (3, 1), (3, 2)] false, 3, 40, .agg [.nilsl, (.int .i64 0), (.int .i64 0)]⟩
noncomputable def ty61 : TI := ⟨.struct [(22, 0), (3, 1), (3, 2)] false, 3, 40, .agg [.nilsl, (.int .i64 0), (.int .i64 0)]⟩
noncomputable def ty62 : TI := ⟨.func, 1, 8, .nilfn⟩
noncomputable def ty63 : TI := ⟨.func, 1, 8, .nilfn⟩
noncomputable def ty64 : TI := ⟨.ptr 68, 1, 8, .nilptr⟩
noncomputable def ty65 : TI := ⟨.func, 1, 8, .nilfn⟩
noncomputable def ty66 : TI := ⟨.slice 22, 1, 24, .nilsl⟩
noncomputable def ty67 : TI := ⟨.struct [(31, 0), (22, 5), (22, 6), (66, 7)] false, 8, 152, .agg [(.str []), (.int .i64 0), (.int .i64 0), .nilsl, .nilsl, .nilsl, .nilsl, .nilsl]⟩
noncomputable def ty68 : TI := ⟨.struct [(31, 0), (22, 5), (22, 6), (66, 7)] false, 8, 152, .agg [(.str []), (.int .i64 0), (.int .i64 0), .nilsl, .nilsl, .nilsl, .nilsl, .nilsl]⟩
noncomputable def ty69 : TI := ⟨.map 3 3, 1, 8, .nilmap⟩
noncomputable def ty70 : TI := ⟨.func, 1, 8, .nilfn⟩
noncomputable def ty71 : TI := ⟨.func, 1, 8, .nilfn⟩
noncomputable def ty72 : TI := ⟨.func, 1, 8, .nilfn⟩
noncomputable def ty73 : TI := ⟨.func, 1, 8, .nilfn⟩
noncomputable def ty74 : TI := ⟨.func, 1, 8, .nilfn⟩
noncomputable def ty75 : TI := ⟨.func, 1, 8, .nilfn⟩
noncomputable def ty76 : TI := ⟨.func, 1, 8, .nilfn⟩
noncomputable def ty77 : TI := ⟨.func, 1, 8, .nilfn⟩
noncomputable def ty78 : TI := ⟨.func, 1, 8, .nilfn⟩
noncomputable def ty79 : TI := ⟨.func, 1, 8, .nilfn⟩
noncomputable def ty80 : TI := ⟨.func, 1, 8, .nilfn⟩
noncomputable def ty81 : TI := ⟨.func, 1, 8, .nilfn⟩
noncomputable def ty82 : TI := ⟨.func, 1, 8, .nilfn⟩
noncomputable def ty83 : TI := ⟨.ptr 46, 1, 8, .nilptr⟩
noncomputable def ty84 : TI := ⟨.func, 1, 8, .nilfn⟩
noncomputable def ty85 : TI := ⟨.map 3 123, 1, 8, .nilmap⟩
noncomputable def ty86 : TI := ⟨.map 3 123, 1, 8, .nilmap⟩
noncomputable def ty87 : TI := ⟨.func, 1, 8, .nilfn⟩
noncomputable def ty88 : TI := ⟨.func, 1, 8, .nilfn⟩
noncomputable def ty89 : TI := ⟨.func, 1, 8, .nilfn⟩
noncomputable def ty90 : TI := ⟨.func, 1, 8, .nilfn⟩
noncomputable def ty91 : TI := ⟨.func, 1, 8, .nilfn⟩
noncomputable def ty92 : TI := ⟨.struct [(9, 0), (3, 1), (3, 2), (3, 3)] true, 4, 40, .agg [(.str []), (.int .i64 0), (.int .i64 0), (.int .i64 0)]⟩
noncomputable def ty93 : TI := ⟨.struct [(9, 0), (3, 1), (3, 2), (3, 3)] true, 4, 40, .agg [(.str []), (.int .i64 0), (.int .i64 0), (.int .i64 0)]⟩
noncomputable def ty94 : TI := ⟨.func, 1, 8, .nilfn⟩
noncomputable def ty95 : TI := ⟨.struct [(36, 0), (31, 2)] false, 7, 128, .agg [.nilsl, .nilsl, (.str []), (.int .i64 0), (.int .i64 0), .nilsl, .nilsl]⟩
noncomputable def ty96 : TI := ⟨.struct [(36, 0), (31, 2)] false, 7, 128, .agg [.nilsl, .nilsl, (.str []), (.int .i64 0), (.int .i64 0), .nilsl, .nilsl]⟩
noncomputable def ty97 : TI := ⟨.func, 1, 8, .nilfn⟩
noncomputable def ty98 : TI := ⟨.ptr 100, 1, 8, .nilptr⟩
noncomputable def ty99 : TI := ⟨.struct [(36, 0), (22, 2), (3, 3), (66, 4), (61, 5), (3, 8)] false, 9, 152, .agg [.nilsl, .nilsl, .nilsl, (.int .i64 0), .nilsl, .nilsl, (.int .i64 0), (.int .i64 0), (.int .i64 0)]⟩
noncomputable def ty100 : TI := ⟨.struct [(36, 0), (22, 2), (3, 3), (66, 4), (61, 5), (3, 8)] false, 9, 152, .agg [.nilsl, .nilsl, .nilsl, (.int .i64 0), .nilsl, .nilsl, (.int .i64 0), (.int .i64 0), (.int .i64 0)]⟩
noncomputable def ty101 : TI := ⟨.struct [(3, 0), (3, 1)] true, 2, 16, .agg [(.int .i64 0), (.int .i64 0)]⟩
noncomputable def ty102 : TI := ⟨.struct [(3, 0), (3, 1)] true, 2, 16, .agg [(.int .i64 0), (.int .i64 0)]⟩
noncomputable def ty103 : TI := ⟨.func, 1, 8, .nilfn⟩
noncomputable def ty104 : TI := ⟨.func, 1, 8, .nilfn⟩
noncomputable def ty105 : TI := ⟨.func, 1, 8, .nilfn⟩
noncomputable def ty106 : TI := ⟨.func, 1, 8, .nilfn⟩
noncomputable def ty107 : TI := ⟨.func, 1, 8, .nilfn⟩
noncomputable def ty108 : TI := ⟨.func, 1, 8, .nilfn⟩
noncomputable def ty109 : TI := ⟨.func, 1, 8, .nilfn⟩
noncomputable def ty110 : TI := ⟨.slice 115, 1, 24, .nilsl⟩
noncomputable def ty112 : TI := ⟨.func, 1, 8, .nilfn⟩
noncomputable def ty113 : TI := ⟨.func, 1, 8, .nilfn⟩
noncomputable def ty114 : TI := ⟨.func, 1, 8, .nilfn⟩
noncomputable def ty115 : TI := ⟨.slice 4, 1, 24, .nilsl⟩
noncomputable def ty116 : TI := ⟨.func, 1, 8, .nilfn⟩
noncomputable def ty117 : TI := ⟨.func, 1, 8, .nilfn⟩
noncomputable def ty118 : TI := ⟨.func, 1, 8, .nilfn⟩
noncomputable def ty119 : TI := ⟨.ptr 44, 1, 8, .nilptr⟩
noncomputable def ty120 : TI := ⟨.ptr 3, 1, 8, .nilptr⟩
noncomputable def ty121 : TI := ⟨.slice 120, 1, 24, .nilsl⟩
noncomputable def ty122 : TI := ⟨.struct [(3, 0), (3, 1), (3, 2), (3, 3), (3, 4), (9, 5)] true, 6, 56, .agg [(.int .i64 0), (.int .i64 0), (.int .i64 0), (.int .i64 0), (.int .i64 0), (.str [])]⟩
noncomputable def ty123 : TI := ⟨.struct [(3, 0), (3, 1), (3, 2), (3, 3), (3, 4), (9, 5)] true, 6, 56, .agg [(.int .i64 0), (.int .i64 0), (.int .i64 0), (.int .i64 0), (.int .i64 0), (.str [])]⟩
noncomputable def ty125 : TI := ⟨.func, 1, 8, .nilfn⟩
noncomputable def ty127 : TI := ⟨.func, 1, 8, .nilfn⟩
noncomputable def ty128 : TI := ⟨.func, 1, 8, .nilfn⟩
noncomputable def ty129 : TI := ⟨.func, 1, 8, .nilfn⟩
noncomputable def ty130 : TI := ⟨.slice 133, 1, 24, .nilsl⟩
noncomputable def ty131 : TI := ⟨.func, 1, 8, .nilfn⟩
noncomputable def ty132 : TI := ⟨.struct [(4, 0), (3, 1), (3, 2), (3, 3), (3, 4), (3, 5), (9, 6)] true, 7, 64, .agg [(.bool false), (.int .i64 0), (.int .i64 0), (.int .i64 0), (.int .i64 0), (.int .i64 0), (.str [])]⟩
noncomputable def ty133 : TI := ⟨.struct [(4, 0), (3, 1), (3, 2), (3, 3), (3, 4), (3, 5), (9, 6)] true, 7, 64, .agg [(.bool false), (.int .i64 0), (.int .i64 0), (.int .i64 0), (.int .i64 0), (.int .i64 0), (.str [])]⟩
noncomputable def ty134 : TI := ⟨.func, 1, 8, .nilfn⟩
noncomputable def ty135 : TI := ⟨.func, 1, 8, .nilfn⟩
noncomputable def ty136 : TI := ⟨.func, 1, 8, .nilfn⟩
noncomputable def ty137 : TI := ⟨.func, 1, 8, .nilfn⟩
noncomputable def ty138 : TI := ⟨.func, 1, 8, .nilfn⟩
noncomputable def ty139 : TI := ⟨.func, 1, 8, .nilfn⟩
noncomputable def ty140 : TI := ⟨.func, 1, 8, .nilfn⟩
noncomputable def ty141 : TI := ⟨.func, 1, 8, .nilfn⟩
noncomputable def ty142 : TI := ⟨.func, 1, 8, .nilfn⟩
noncomputable def ty143 : TI := ⟨.func, 1, 8, .nilfn⟩
noncomputable def ty144 : TI := ⟨.func, 1, 8, .nilfn⟩
noncomputable def ty145 : TI := ⟨.func, 1, 8, .nilfn⟩
noncomputable def ty146 : TI := ⟨.func, 1, 8, .nilfn⟩
noncomputable def ty147 : TI := ⟨.func, 1, 8, .nilfn⟩
noncomputable def ty148 : TI := ⟨.func, 1, 8, .nilfn⟩
noncomputable def ty149 : TI := ⟨.func, 1, 8, .nilfn⟩
noncomputable def ty150 : TI := ⟨.func, 1, 8, .nilfn⟩
noncomputable def ty151 : TI := ⟨.func, 1, 8, .nilfn⟩
noncomputable def ty152 : TI := ⟨.int .u64, 1, 8, .int .u64 0⟩
noncomputable def ty153 : TI := ⟨.func, 1, 8, .nilfn⟩
noncomputable def ty154 : TI := ⟨.func, 1, 8, .nilfn⟩
noncomputable def ty155 : TI := ⟨.func, 1, 8, .nilfn⟩
noncomputable def ty156 : TI := ⟨.func, 1, 8, .nilfn⟩
noncomputable def ty157 : TI := ⟨.func, 1, 8, .nilfn⟩
noncomputable def ty158 : TI := ⟨.func, 1, 8, .nilfn⟩
noncomputable def ty159 : TI := ⟨.func, 1, 8, .nilfn⟩
noncomputable def ty160 : TI := ⟨.func, 1, 8, .nilfn⟩
noncomputable def ty161 : TI := ⟨.func, 1, 8, .nilfn⟩
noncomputable def ty163 : TI := ⟨.func, 1, 8, .nilfn⟩
noncomputable def ty164 : TI := ⟨.func, 1, 8, .nilfn⟩
noncomputable def ty165 : TI := ⟨.func, 1, 8, .nilfn⟩
noncomputable def ty167 : TI := ⟨.func, 1, 8, .nilfn⟩
noncomputable def ty168 : TI := ⟨.func, 1, 8, .nilfn⟩
noncomputable def ty169 : TI := ⟨.int .i64, 1, 8, .int .i64 0⟩
noncomputable def ty171 : TI := ⟨.func, 1, 8, .nilfn⟩
noncomputable def ty172 : TI := ⟨.func, 1, 8, .nilfn⟩
noncomputable def ty173 : TI := ⟨.func, 1, 8, .nilfn⟩
noncomputable def ty174 : TI := ⟨.func, 1, 8, .nilfn⟩
noncomputable def ty175 : TI := ⟨.func, 1, 8, .nilfn⟩
noncomputable def ty176 : TI := ⟨.int .u32, 1, 4, .int .u32 0⟩
noncomputable def ty177 : TI := ⟨.func, 1, 8, .nilfn⟩
noncomputable def ty178 : TI := ⟨.int .u64, 1, 8, .int .u64 0⟩
noncomputable def ty179 : TI := ⟨.func, 1, 8, .nilfn⟩
noncomputable def ty180 : TI := ⟨.func, 1, 8, .nilfn⟩
noncomputable def ty181 : TI := ⟨.func, 1, 8, .nilfn⟩
noncomputable def ty182 : TI := ⟨.func, 1, 8, .nilfn⟩
noncomputable def ty183 : TI := ⟨.func, 1, 8, .nilfn⟩
noncomputable def ty184 : TI := ⟨.func, 1, 8, .nilfn⟩
noncomputable def ty185 : TI := ⟨.func, 1, 8, .nilfn⟩
noncomputable def ty186 : TI := ⟨.func, 1, 8, .nilfn⟩
noncomputable def ty187 : TI := ⟨.func, 1, 8, .nilfn⟩
noncomputable def ty188 : TI := ⟨.func, 1, 8, .nilfn⟩
noncomputable def ty189 : TI := ⟨.func, 1, 8, .nilfn⟩
noncomputable def ty190 : TI := ⟨.int .i8, 1, 1, .int .i8 0⟩
noncomputable def ty192 : TI := ⟨.func, 1, 8, .nilfn⟩
noncomputable def ty194 : TI := ⟨.func, 1, 8, .nilfn⟩
noncomputable def ty195 : TI := ⟨.int .u64, 1, 8, .int .u64 0⟩
noncomputable def ty196 : TI := ⟨.func, 1, 8, .nilfn⟩
noncomputable def ty197 : TI := ⟨.func, 1, 8, .nilfn⟩
noncomputable def ty198 : TI := ⟨.func, 1, 8, .nilfn⟩
noncomputable def ty199 : TI := ⟨.func, 1, 8, .nilfn⟩
noncomputable def ty200 : TI := ⟨.func, 1, 8, .nilfn⟩
noncomputable def ty201 : TI := ⟨.func, 1, 8, .nilfn⟩
noncomputable def ty202 : TI := ⟨.func, 1, 8, .nilfn⟩
noncomputable def ty204 : TI := ⟨.func, 1, 8, .nilfn⟩
noncomputable def ty205 : TI := ⟨.func, 1, 8, .nilfn⟩
noncomputable def ty207 : TI := ⟨.func, 1, 8, .nilfn⟩
noncomputable def ty208 : TI := ⟨.func, 1, 8, .nilfn⟩
noncomputable def ty209 : TI := ⟨.ptr 195, 1, 8, .nilptr⟩
noncomputable def ty210 : TI := ⟨.func, 1, 8, .nilfn⟩
noncomputable def ty211 : TI := ⟨.func, 1, 8, .nilfn⟩
noncomputable def ty212 : TI := ⟨.func, 1, 8, .nilfn⟩
noncomputable def ty213 : TI := ⟨.func, 1, 8, .nilfn⟩
noncomputable def ty214 : TI := ⟨.func, 1, 8, .nilfn⟩
noncomputable def ty215 : TI := ⟨.func, 1, 8, .nilfn⟩
noncomputable def ty216 : TI := ⟨.struct [(17, 0), (17, 1), (17, 2), (9, 3)] false, 4, 40, .agg [.nilptr, .nilptr, .nilptr, (.str [])]⟩
noncomputable def ty217 : TI := ⟨.struct [(17, 0), (17, 1), (17, 2), (9, 3)] false, 4, 40, .agg [.nilptr, .nilptr, .nilptr, (.str [])]⟩
noncomputable def ty218 : TI := ⟨.array 0 16, 0, 0, .agg []⟩
noncomputable def ty219 : TI := ⟨.struct [(218, 0)] false, 0, 0, .agg []⟩
noncomputable def ty220 : TI := ⟨.struct [(218, 0)] false, 0, 0, .agg []⟩
noncomputable def ty221 : TI := ⟨.int .u8, 1, 1, .int .u8 0⟩
noncomputable def ty222 : TI := ⟨.int .u8, 1, 1, .int .u8 0⟩
noncomputable def ty223 : TI := ⟨.func, 1, 8, .nilfn⟩
noncomputable def ty224 : TI := ⟨.ptr 5, 1, 8, .nilptr⟩
noncomputable def ty225 : TI := ⟨.int .i32, 1, 4, .int .i32 0⟩
noncomputable def ty226 : TI := ⟨.int .i32, 1, 4, .int .i32 0⟩
noncomputable def ty227 : TI := ⟨.struct [(12, 0), (12, 1), (176, 2), (221, 3), (5, 4), (5, 5), (222, 6), (223, 7), (224, 8), (225, 9), (226, 10)] false, 11, 48, .agg [(.int .u64 0), (.int .u64 0), (.int .u32 0), (.int .u8 0), (.int .u8 0), (.int .u8 0), (.int .u8 0), .nilfn, .nilptr, (.int .i32 0), (.int .i32 0)]⟩
noncomputable def ty228 : TI := ⟨.struct [(12, 0), (12, 1), (176, 2), (221, 3), (5, 4), (5, 5), (222, 6), (223, 7), (224, 8), (225, 9), (226, 10)] false, 11, 48, .agg [(.int .u64 0), (.int .u64 0), (.int .u32 0), (.int .u8 0), (.int .u8 0), (.int .u8 0), (.int .u8 0), .nilfn, .nilptr, (.int .i32 0), (.int .i32 0)]⟩
noncomputable def ty229 : TI := ⟨.other, 1, 8, .nilptr⟩
noncomputable def ti (t : Nat) : Option TI :=
  bif Nat.blt t 230 then (bif Nat.blt t 115 then (bif Nat.blt t 57 then (bif Nat.blt t 28 then (bif Nat.blt t 14 then (bif Nat.blt t 7 then (bif Nat.blt t 3 then (bif Nat.blt t 1 then (none) else (bif Nat.blt t 2 then (some ty1) else (some ty2))) else (bif Nat.blt t 5 then (bif Nat.blt t 4 then (some ty3) else (some ty4)) else (bif Nat.blt t 6 then (some ty5) else (some ty6)))) else (bif Nat.blt t 10 then (bif Nat.blt t 8 then (some ty7) else (bif Nat.blt t 9 then (some ty8) else (some ty9))) else (bif Nat.blt t 12 then (bif Nat.blt t 11 then (some ty10) else (some ty11)) else (bif Nat.blt t 13 then (some ty12) else (some ty13))))) else (bif Nat.blt t 21 then (bif Nat.blt t 17 then (bif Nat.blt t 15 then (some ty14) else (bif Nat.blt t 16 then (some ty15) else (some ty16))) else (bif Nat.blt t 19 then (bif Nat.blt t 18 then (some ty17) else (some ty18)) else (bif Nat.blt t 20 then (some ty19) else (some ty20)))) else (bif Nat.blt t 24 then (bif Nat.blt t 22 then (some ty21) else (bif Nat.blt t 23 then (some ty22) else (some ty23))) else (bif Nat.blt t 26 then (bif Nat.blt t 25 then (some ty24) else (some ty25)) else (bif Nat.blt t 27 then (some ty26) else (some ty27)))))) else (bif Nat.blt t 42 then (bif Nat.blt t 35 then (bif Nat.blt t 31 then (bif Nat.blt t 29 then (some ty28) else (bif Nat.blt t 30 then (some ty29) else (some ty30))) else (bif Nat.blt t 33 then (bif Nat.blt t 32 then (some ty31) else (some ty32)) else (bif Nat.blt t 34 then (some ty33) else (some ty34)))) else (bif Nat.blt t 38 then (bif Nat.blt t 36 then (some ty35) else (bif Nat.blt t 37 then (some ty36) else (some ty37))) else (bif Nat.blt t 40 then (bif Nat.blt t 39 then (some ty38) else (some ty39)) else (bif Nat.blt t 41 then (some ty40) else (some ty41))))) else (bif Nat.blt t 49 then (bif Nat.blt t 45 then (bif Nat.blt t 43 then (some ty42) else (bif Nat.blt t 44 then (some ty43) else (some ty44))) else (bif Nat.blt t 47 then (bif Nat.blt t 46 then (some ty45) else (some ty46)) else (bif Nat.blt t 48 then (some ty47) else (some ty48)))) else (bif Nat.blt t 53 then (bif Nat.blt t 51 then (bif Nat.blt t 50 then (some ty49) else (some ty50)) else (bif Nat.blt t 52 then (some ty51) else (some ty52))) else (bif Nat.blt t 55 then (bif Nat.blt t 54 then (some ty53) else (some ty54)) else (bif Nat.blt t 56 then (some ty55) else (some ty56))))))) else (bif Nat.blt t 86 then (bif Nat.blt t 71 then (bif Nat.blt t 64 then (bif Nat.blt t 60 then (bif Nat.blt t 58 then (some ty57) else (bif Nat.blt t 59 then (some ty58) else (some ty59))) else (bif Nat.blt t 62 then (bif Nat.blt t 61 then (some ty60) else (some ty61)) else (bif Nat.blt t 63 then (some ty62) else (some ty63)))) else (bif Nat.blt t 67 then (bif Nat.blt t 65 then (some ty64) else (bif Nat.blt t 66 then (some ty65) else (some ty66))) else (bif Nat.blt t 69 then (bif Nat.blt t 68 then (some ty67) else (some ty68)) else (bif Nat.blt t 70 then (some ty69) else (some ty70))))) else (bif Nat.blt t 78 then (bif Nat.blt t 74 then (bif Nat.blt t 72 then (some ty71) else (bif Nat.blt t 73 then (some ty72) else (some ty73))) else (bif Nat.blt t 76 then (bif Nat.blt t 75 then (some ty74) else (some ty75)) else (bif Nat.blt t 77 then (some ty76) else (some ty77)))) else (bif Nat.blt t 82 then (bif Nat.blt t 80 then (bif Nat.blt t 79 then (some ty78) else (some ty79)) else (bif Nat.blt t 81 then (some ty80) else (some ty81))) else (bif Nat.blt t 84 then (bif Nat.blt t 83 then (some ty82) else (some ty83)) else (bif Nat.blt t 85 then (some ty84) else (some ty85)))))) else (bif Nat.blt t 100 then (bif Nat.blt t 93 then (bif Nat.blt t 89 then (bif Nat.blt t 87 then (some ty86) else (bif Nat.blt t 88 then (some ty87) else (some ty88))) else (bif Nat.blt t 91 then (bif Nat.blt t 90 then (some ty89) else (some ty90)) else (bif Nat.blt t 92 then (some ty91) else (some ty92)))) else (bif Nat.blt t 96 then (bif Nat.blt t 94 then (some ty93) else (bif Nat.blt t 95 then (some ty94) else (some ty95))) else (bif Nat.blt t 98 then (bif Nat.blt t 97 then (some ty96) else (some ty97)) else (bif Nat.blt t 99 then (some ty98) else (some ty99))))) else (bif Nat.blt t 107 then (bif Nat.blt t 103 then (bif Nat.blt t 101 then (some ty100) else (bif Nat.blt t 102 then (some ty101) else (some ty102))) else (bif Nat.blt t 105 then (bif Nat.blt t 104 then (some ty103) else (some ty104)) else (bif Nat.blt t 106 then (some ty105) else (some ty106)))) else (bif Nat.blt t 111 then (bif Nat.blt t 109 then (bif Nat.blt t 108 then (some ty107) else (some ty108)) else (bif Nat.blt t 110 then (some ty109) else (some ty110))) else (bif Nat.blt t 113 then (bif Nat.blt t 112 then (none) else (some ty112)) else (bif Nat.blt t 114 then (some ty113) else (some ty114)))))))) else (bif Nat.blt t 172 then (bif Nat.blt t 143 then (bif Nat.blt t 129 then (bif Nat.blt t 122 then (bif Nat.blt t 118 then (bif Nat.blt t 116 then (some ty115) else (bif Nat.blt t 117 then (some ty116) else (some ty117))) else (bif Nat.blt t 120 then (bif Nat.blt t 119 then (some ty118) else (some ty119)) else (bif Nat.blt t 121 then (some ty120) else (some ty121)))) else (bif Nat.blt t 125 then (bif Nat.blt t 123 then (some ty122) else (bif Nat.blt t 124 then (some ty123) else (none))) else (bif Nat.blt t 127 then (bif Nat.blt t 126 then (some ty125) else (none)) else (bif Nat.blt t 128 then (some ty127) else (some ty128))))) else (bif Nat.blt t 136 then (bif Nat.blt t 132 then (bif Nat.blt t 130 then (some ty129) else (bif Nat.blt t 131 then (some ty130) else (some ty131))) else (bif Nat.blt t 134 then (bif Nat.blt t 133 then (some ty132) else (some ty133)) else (bif Nat.blt t 135 then (some ty134) else (some ty135)))) else (bif Nat.blt t 139 then (bif Nat.blt t 137 then (some ty136) else (bif Nat.blt t 138 then (some ty137) else (some ty138))) else (bif Nat.blt t 141 then (bif Nat.blt t 140 then (some ty139) else (some ty140)) else (bif Nat.blt t 142 then (some ty141) else (some ty142)))))) else (bif Nat.blt t 157 then (bif Nat.blt t 150 then (bif Nat.blt t 146 then (bif Nat.blt t 144 then (some ty143) else (bif Nat.blt t 145 then (some ty144) else (some ty145))) else (bif Nat.blt t 148 then (bif Nat.blt t 147 then (some ty146) else (some ty147)) else (bif Nat.blt t 149 then (some ty148) else (some ty149)))) else (bif Nat.blt t 153 then (bif Nat.blt t 151 then (some ty150) else (bif Nat.blt t 152 then (some ty151) else (some ty152))) else (bif Nat.blt t 155 then (bif Nat.blt t 154 then (some ty153) else (some ty154)) else (bif Nat.blt t 156 then (some ty155) else (some ty156))))) else (bif Nat.blt t 164 then (bif Nat.blt t 160 then (bif Nat.blt t 158 then (some ty157) else (bif Nat.blt t 159 then (some ty158) else (some ty159))) else (bif Nat.blt t 162 then (bif Nat.blt t 161 then (some ty160) else (some ty161)) else (bif Nat.blt t 163 then (none) else (some ty163)))) else (bif Nat.blt t 168 then (bif Nat.blt t 166 then (bif Nat.blt t 165 then (some ty164) else (some ty165)) else (bif Nat.blt t 167 then (none) else (some ty167))) else (bif Nat.blt t 170 then (bif Nat.blt t 169 then (some ty168) else (some ty169)) else (bif Nat.blt t 171 then (none) else (some ty171))))))) else (bif Nat.blt t 201 then (bif Nat.blt t 186 then (bif Nat.blt t 179 then (bif Nat.blt t 175 then (bif Nat.blt t 173 then (some ty172) else (bif Nat.blt t 174 then (some ty173) else (some ty174))) else (bif Nat.blt t 177 then (bif Nat.blt t 176 then (some ty175) else (some ty176)) else (bif Nat.blt t 178 then (some ty177) else (some ty178)))) else (bif Nat.blt t 182 then (bif Nat.blt t 180 then (some ty179) else (bif Nat.blt t 181 then (some ty180) else (some ty181))) else (bif Nat.blt t 184 then (bif Nat.blt t 183 then (some ty182) else (some ty183)) else (bif Nat.blt t 185 then (some ty184) else (some ty185))))) else (bif Nat.blt t 193 then (bif Nat.blt t 189 then (bif Nat.blt t 187 then (some ty186) else (bif Nat.blt t 188 then (some ty187) else (some ty188))) else (bif Nat.blt t 191 then (bif Nat.blt t 190 then (some ty189) else (some ty190)) else (bif Nat.blt t 192 then (none) else (some ty192)))) else (bif Nat.blt t 197 then (bif Nat.blt t 195 then (bif Nat.blt t 194 then (none) else (some ty194)) else (bif Nat.blt t 196 then (some ty195) else (some ty196))) else (bif Nat.blt t 199 then (bif Nat.blt t 198 then (some ty197) else (some ty198)) else (bif Nat.blt t 200 then (some ty199) else (some ty200)))))) else (bif Nat.blt t 215 then (bif Nat.blt t 208 then (bif Nat.blt t 204 then (bif Nat.blt t 202 then (some ty201) else (bif Nat.blt t 203 then (some ty202) else (none))) else (bif Nat.blt t 206 then (bif Nat.blt t 205 then (some ty204) else (some ty205)) else (bif Nat.blt t 207 then (none) else (some ty207)))) else (bif Nat.blt t 211 then (bif Nat.blt t 209 then (some ty208) else (bif Nat.blt t 210 then (some ty209) else (some ty210))) else (bif Nat.blt t 213 then (bif Nat.blt t 212 then (some ty211) else (some ty212)) else (bif Nat.blt t 214 then (some ty213) else (some ty214))))) else (bif Nat.blt t 222 then (bif Nat.blt t 218 then (bif Nat.blt t 216 then (some ty215) else (bif Nat.blt t 217 then (some ty216) else (some ty217))) else (bif Nat.blt t 220 then (bif Nat.blt t 219 then (some ty218) else (some ty219)) else (bif Nat.blt t 221 then (some ty220) else (some ty221)))) else (bif Nat.blt t 226 then (bif Nat.blt t 224 then (bif Nat.blt t 223 then (some ty222) else (some ty223)) else (bif Nat.blt t 225 then (some ty224) else (some ty225))) else (bif Nat.blt t 228 then (bif Nat.blt t 227 then (some ty226) else (some ty227)) else (bif Nat.blt t 229 then (some ty228) else (some ty229))))))))) else none
noncomputable def fn (f : Nat) : Option FI :=
  bif Nat.blt f 197 then (bif Nat.blt f 98 then (bif Nat.blt f 49 then (bif Nat.blt f 24 then (bif Nat.blt f 12 then (bif Nat.blt f 6 then (bif Nat.blt f 3 then (bif Nat.blt f 1 then (none) else (bif Nat.blt f 2 then (none) else (none))) else (bif Nat.blt f 4 then (none) else (bif Nat.blt f 5 then (some fi4) else (none)))) else (bif Nat.blt f 9 then (bif Nat.blt f 7 then (none) else (bif Nat.blt f 8 then (none) else (none))) else (bif Nat.blt f 10 then (none) else (bif Nat.blt f 11 then (none) else (none))))) else (bif Nat.blt f 18 then (bif Nat.blt f 15 then (bif Nat.blt f 13 then (none) else (bif Nat.blt f 14 then (none) else (some fi14))) else (bif Nat.blt f 16 then (some fi15) else (bif Nat.blt f 17 then (some fi16) else (some fi17)))) else (bif Nat.blt f 21 then (bif Nat.blt f 19 then (some fi18) else (bif Nat.blt f 20 then (some fi19) else (some fi20))) else (bif Nat.blt f 22 then (some fi21) else (bif Nat.blt f 23 then (some fi22) else (some fi23)))))) else (bif Nat.blt f 36 then (bif Nat.blt f 30 then (bif Nat.blt f 27 then (bif Nat.blt f 25 then (none) else (bif Nat.blt f 26 then (some fi25) else (some fi26))) else (bif Nat.blt f 28 then (none) else (bif Nat.blt f 29 then (none) else (none)))) else (bif Nat.blt f 33 then (bif Nat.blt f 31 then (some fi30) else (bif Nat.blt f 32 then (some fi31) else (some fi32))) else (bif Nat.blt f 34 then (some fi33) else (bif Nat.blt f 35 then (none) else (some fi35))))) else (bif Nat.blt f 42 then (bif Nat.blt f 39 then (bif Nat.blt f 37 then (some fi36) else (bif Nat.blt f 38 then (some fi37) else (none))) else (bif Nat.blt f 40 then (some fi39) else (bif Nat.blt f 41 then (some fi40) else (some fi41)))) else (bif Nat.blt f 45 then (bif Nat.blt f 43 then (some fi42) else (bif Nat.blt f 44 then (some fi43) else (some fi44))) else (bif Nat.blt f 47 then (bif Nat.blt f 46 then (some fi45) else (some fi46)) else (bif Nat.blt f 48 then (some fi47) else (some fi48))))))) else (bif Nat.blt f 73 then (bif Nat.blt f 61 then (bif Nat.blt f 55 then (bif Nat.blt f 52 then (bif Nat.blt f 50 then (some fi49) else (bif Nat.blt f 51 then (some fi50) else (none))) else (bif Nat.blt f 53 then (some fi52) else (bif Nat.blt f 54 then (some fi53) else (some fi54)))) else (bif Nat.blt f 58 then (bif Nat.blt f 56 then (none) else (bif Nat.blt f 57 then (none) else (none))) else (bif Nat.blt f 59 then (none) else (bif Nat.blt f 60 then (some fi59) else (some fi60))))) else (bif Nat.blt f 67 then (bif Nat.blt f 64 then (bif Nat.blt f 62 then (some fi61) else (bif Nat.blt f 63 then (some fi62) else (some fi63))) else (bif Nat.blt f 65 then (some fi64) else (bif Nat.blt f 66 then (some fi65) else (some fi66)))) else (bif Nat.blt f 70 then (bif Nat.blt f 68 then (some fi67) else (bif Nat.blt f 69 then (some fi68) else (some fi69))) else (bif Nat.blt f 71 then (some fi70) else (bif Nat.blt f 72 then (none) else (none)))))) else (bif Nat.blt f 85 then (bif Nat.blt f 79 then (bif Nat.blt f 76 then (bif Nat.blt f 74 then (some fi73) else (bif Nat.blt f 75 then (some fi74) else (some fi75))) else (bif Nat.blt f 77 then (some fi76) else (bif Nat.blt f 78 then (some fi77) else (some fi78)))) else (bif Nat.blt f 82 then (bif Nat.blt f 80 then (some fi79) else (bif Nat.blt f 81 then (some fi80) else (some fi81))) else (bif Nat.blt f 83 then (some fi82) else (bif Nat.blt f 84 then (none) else (none))))) else (bif Nat.blt f 91 then (bif Nat.blt f 88 then (bif Nat.blt f 86 then (none) else (bif Nat.blt f 87 then (none) else (none))) else (bif Nat.blt f 89 then (some fi88) else (bif Nat.blt f 90 then (some fi89) else (none)))) else (bif Nat.blt f 94 then (bif Nat.blt f 92 then (none) else (bif Nat.blt f 93 then (none) else (none))) else (bif Nat.blt f 96 then (bif Nat.blt f 95 then (none) else (none)) else (bif Nat.blt f 97 then (some fi96) else (some fi97)))))))) else (bif Nat.blt f 147 then (bif Nat.blt f 122 then (bif Nat.blt f 110 then (bif Nat.blt f 104 then (bif Nat.blt f 101 then (bif Nat.blt f 99 then (some fi98) else (bif Nat.blt f 100 then (some fi99) else (some fi100))) else (bif Nat.blt f 102 then (some fi101) else (bif Nat.blt f 103 then (some fi102) else (some fi103)))) else (bif Nat.blt f 107 then (bif Nat.blt f 105 then (some fi104) else (bif Nat.blt f 106 then (some fi105) else (some fi106))) else (bif Nat.blt f 108 then (some fi107) else (bif Nat.blt f 109 then (some fi108) else (some fi109))))) else (bif Nat.blt f 116 then (bif Nat.blt f 113 then (bif Nat.blt f 111 then (some fi110) else (bif Nat.blt f 112 then (some fi111) else (some fi112))) else (bif Nat.blt f 114 then (none) else (bif Nat.blt f 115 then (none) else (none)))) else (bif Nat.blt f 119 then (bif Nat.blt f 117 then (some fi116) else (bif Nat.blt f 118 then (some fi117) else (some fi118))) else (bif Nat.blt f 120 then (some fi119) else (bif Nat.blt f 121 then (some fi120) else (some fi121)))))) else (bif Nat.blt f 134 then (bif Nat.blt f 128 then (bif Nat.blt f 125 then (bif Nat.blt f 123 then (some fi122) else (bif Nat.blt f 124 then (none) else (some fi124))) else (bif Nat.blt f 126 then (some fi125) else (bif Nat.blt f 127 then (some fi126) else (some fi127)))) else (bif Nat.blt f 131 then (bif Nat.blt f 129 then (some fi128) else (bif Nat.blt f 130 then (some fi129) else (some fi130))) else (bif Nat.blt f 132 then (some fi131) else (bif Nat.blt f 133 then (some fi132) else (none))))) else (bif Nat.blt f 140 then (bif Nat.blt f 137 then (bif Nat.blt f 135 then (none) else (bif Nat.blt f 136 then (none) else (none))) else (bif Nat.blt f 138 then (none) else (bif Nat.blt f 139 then (none) else (none)))) else (bif Nat.blt f 143 then (bif Nat.blt f 141 then (none) else (bif Nat.blt f 142 then (none) else (none))) else (bif Nat.blt f 145 then (bif Nat.blt f 144 then (none) else (some fi144)) else (bif Nat.blt f 146 then (some fi145) else (some fi146))))))) else (bif Nat.blt f 172 then (bif Nat.blt f 159 then (bif Nat.blt f 153 then (bif Nat.blt f 150 then (bif Nat.blt f 148 then (none) else (bif Nat.blt f 149 then (none) else (some fi149))) else (bif Nat.blt f 151 then (some fi150) else (bif Nat.blt f 152 then (some fi151) else (some fi152)))) else (bif Nat.blt f 156 then (bif Nat.blt f 154 then (some fi153) else (bif Nat.blt f 155 then (some fi154) else (some fi155))) else (bif Nat.blt f 157 then (some fi156) else (bif Nat.blt f 158 then (some fi157) else (none))))) else (bif Nat.blt f 165 then (bif Nat.blt f 162 then (bif Nat.blt f 160 then (none) else (bif Nat.blt f 161 then (none) else (none))) else (bif Nat.blt f 163 then (none) else (bif Nat.blt f 164 then (none) else (some fi164)))) else (bif Nat.blt f 168 then (bif Nat.blt f 166 then (none) else (bif Nat.blt f 167 then (some fi166) else (some fi167))) else (bif Nat.blt f 170 then (bif Nat.blt f 169 then (some fi168) else (some fi169)) else (bif Nat.blt f 171 then (some fi170) else (none)))))) else (bif Nat.blt f 184 then (bif Nat.blt f 178 then (bif Nat.blt f 175 then (bif Nat.blt f 173 then (none) else (bif Nat.blt f 174 then (some fi173) else (some fi174))) else (bif Nat.blt f 176 then (none) else (bif Nat.blt f 177 then (none) else (none)))) else (bif Nat.blt f 181 then (bif Nat.blt f 179 then (none) else (bif Nat.blt f 180 then (none) else (none))) else (bif Nat.blt f 182 then (none) else (bif Nat.blt f 183 then (none) else (none))))) else (bif Nat.blt f 190 then (bif Nat.blt f 187 then (bif Nat.blt f 185 then (none) else (bif Nat.blt f 186 then (none) else (none))) else (bif Nat.blt f 188 then (none) else (bif Nat.blt f 189 then (none) else (none)))) else (bif Nat.blt f 193 then (bif Nat.blt f 191 then (none) else (bif Nat.blt f 192 then (none) else (none))) else (bif Nat.blt f 195 then (bif Nat.blt f 194 then (none) else (none)) else (bif Nat.blt f 196 then (none) else (none))))))))) else none
noncomputable def env : Env := ⟨ti, fn, fun _ => none, fun f => Nat.beq f 148, some 0, fun f => Nat.beq (Nat.land (Nat.shiftRight 36898194099111231504 f) 1) 1, fun f => bif Nat.beq f 85 then some [1, 1, 1, 1, 1, 2] else none, fun f k => Nat.beq f 38 && (Nat.beq k 73)⟩
set_option maxRecDepth 100000 in
set_option maxHeartbeats 4000000 in
open Go.RowKit Go.Maps in
theorem dl85 : DlfAt Tryz.prog 85 [1, 1, 1, 1, 1, 2] := by
  refine ⟨⟨_, _, Tryz.func85, rfl, by kernel_rfl⟩, fun J pd W b g cb ents clock hb hst hsz hint hstep hcall hJ => ?_⟩
  have hlt : b < W.heap.size := (Array.getElem?_eq_some_iff.1 hb).1
  have K0 : Keyed Tryz.prog 3 := int_keyed Tryz.underlying3
  have hkeys : ∀ x ∈ ents.toList, ∃ kl, keyOf Tryz.prog 3 x.key = some kl := fun x hx => by
    obtain ⟨⟨n, h1, h2⟩, _⟩ := hint x hx
    exact ⟨_, by rw [h1]; exact keyOf_int_mk Tryz.underlying3 h2⟩
  have HD : Aside _ := hcall
  have HS : Aside (DlJ W b J) := hstep
  clear hcall hstep
  go_enter Tryz.func85, Tryz.ntmps85
  go_wp2_with (first
    | (at_range; refine wpList_range_dl (W := W) rfl _ 86 3 123 rfl Tryz.underlying86 rfl hJ HS.out hb hst pd ?_; intro w0 hrg0)
    | go_in)
  go_frame
  go_loopw [8] (fun _ wr => ∃ (seen : Array Nat) (n : Nat), DlS W b clock ents J (fun x => pd x = false ∨ x.born ∉ seen) seen n wr) (fun _ wr => wr.rangeLeft b W.heap.size)
  case atStart => exact ⟨_, _, hrg0⟩
  case round =>
    obtain ⟨seen, n, hrg⟩ := hrel
    go_wp2_with (first
      | (at_next; refine wpList_next_dl (W := W) rfl _ rfl rfl HS.out hst hlt hrg ?_ ?_)
      | go_in)
    · intro ents' hd1 hd2
      go_wp2
      go_end0
      exact ⟨rfl, hrg.keep, ents', hd1, hd2⟩
    · intro e w1 n1 he hrg1 hlt1 hen
      have he' : e ∈ ents.toList := by simpa using he
      obtain ⟨⟨kk, hk1, hk2⟩, vs, hv1, hv2⟩ := hint e he'
      obtain ⟨v0, r0, hv, ⟨h, _⟩ | ⟨_, c0, rfl⟩ | ⟨h, _⟩, v1, r1, rfl, ⟨h, _⟩ | ⟨_, c1, rfl⟩ | ⟨h, _⟩, v2, r2, rfl, ⟨h, _⟩ | ⟨_, c2, rfl⟩ | ⟨h, _⟩, v3, r3, rfl, ⟨h, _⟩ | ⟨_, c3, rfl⟩ | ⟨h, _⟩, v4, r4, rfl, ⟨h, _⟩ | ⟨_, c4, rfl⟩ | ⟨h, _⟩, v5, r5, rfl, ⟨h, _⟩ | ⟨h, _⟩ | ⟨_, c5, rfl⟩, rfl⟩ := hv2 <;> try (exact absurd h (by decide))
      have hvs : vs = #[.int .i64 c0, .int .i64 c1, .int .i64 c2, .int .i64 c3, .int .i64 c4, .string c5] := by apply Array.toList_inj.1; rw [hv]
      subst hvs
      have hlt9 := hrg1.lt
      have hbl9 : b < w1.heap.size := Nat.lt_trans hlt hlt9
      have hJ9 : J (w1.alloc (.cells #[.int .i64 c0, .int .i64 c1, .int .i64 c2, .int .i64 c3, .int .i64 c4, .string c5] 123)) := HS.out w1 _ hrg1.keep (by simp) (fun i _ _ hi => heap_alloc_old w1 _ hi) (fun i hi => szOf_eq (heap_alloc_old w1 _ hi)) rfl rfl rfl
      have hrg9 := hrg1.step hJ9 (by simp) (heap_alloc_old w1 _ hbl9) (heap_alloc_old w1 _ hlt9)
      obtain ⟨⟨gfn, gc, hg1, hg2, hg3⟩, hc⟩ := HD.out _ e he' hJ9 hrg9.lt
      have eg : ∀ args w, (callFunc g args).run Tryz.prog w = .ok (.enter g args) w := enters_of hg1 hg3 hg2
      rw [hk1, hv1] at hc
      rw [hk1, hv1] at hen
      rw [hk1, hv1]
      cases hp : pd e with
      | false =>
        rw [hp] at hc
        go_wp2_with (first
          | (go_at_fn g; refine hc.mono ?_; rintro e2 w2 ⟨rfl, hJ2, hs2, hb2, hr2⟩)
          | go_in)
        have hrg2 := (hrg9.step hJ2 hs2 hb2 hr2).stays hst he' hp
        go_roundw
        case rel => exact ⟨_, _, hrg2⟩
        case measure => rw [hrg2.left, hrg.left]; exact hlt1
      | true =>
        rw [hp] at hc
        go_wp2_with (first
          | (go_at_fn g; refine hc.mono ?_; rintro e2 w2 ⟨rfl, hJ2, hs2, hb2, hr2⟩; have hrg2 := hrg9.step hJ2 hs2 hb2 hr2)
          | (at_delete; refine wpList_delete_dl (W := W) (e := e) rfl _ _ 86 3 123 rfl K0 Tryz.underlying86 rfl hk1.symm HS.out hlt hst hsz hkeys he' hp hrg2 ?_; intro w3 n3 hrg3 hle; go_frame)
          | go_in)
        go_roundw
        case rel => exact ⟨_, _, hrg3⟩
        case measure => rw [hrg3.left, hrg.left]; omega
theorem dlf_ok : ∀ f ks, env.dlf f = some ks → DlfAt Tryz.prog f ks := fun f ks h => by
  have h : (bif Nat.beq f 85 then some [1, 1, 1, 1, 1, 2] else none) = some ks := h
  cases hb : Nat.beq f 85 with
  | true => rw [hb] at h; cases h; have := beq_true hb; subst this; exact dl85
  | false => rw [hb] at h; cases h
open Go.RowKit Go.Maps Go.Sort in
theorem sorts38 (m : Nat) : AnyZI.SortsIn Tryz.prog Tryz.sorted38_ren Fence.wide m :=
  ⟨fun blk off cap ss W hH hblk hsz => callsIn_wide.2 (AnyM.slices_Sort_int Tryz.sort72 blk off cap ss W hH hblk hsz), fun p cap W => callsIn_wide.2 (AnyM.slices_Sort_int_none Tryz.sort72 p cap W)⟩
set_option maxRecDepth 100000 in
set_option maxHeartbeats 4000000 in
open Go.RowKit Go.Maps Go.Sort in
/-- A map's keys come, each once, in some order. -/
theorem ky73 (p o b nn : Nat) (D0 : DataW Unit) {R : Value → Option (DataW Unit × List MemPlace)} (w : World) (hp : p < w.heap.size) (hm : w.cell? ⟨p, o, none⟩ = some (.map (some b))) (hown : w.ownsMap Tryz.prog 3 R b nn D0) :
    SeqGives Fence.wide 2 Tryz.prog 73 #[.pointer (some ⟨p, o, none⟩)] encZ (fun ss => ss.Perm (intKeys D0)) (Maps.size D0) w := fun l J W hW hJ hY h0 => by
  have hown' : W.ownsMap Tryz.prog 3 R b nn D0 := by
    have hbl := hown.lt
    obtain ⟨es, clock, hb, Ft, hs, hD⟩ := hown
    exact ⟨es, clock, (hW.block b hbl).trans hb, Ft, hs, hD⟩
  have hm' : W.cell? ⟨p, o, none⟩ = some (.map (some b)) := (hW.cell (p := ⟨p, o, none⟩) hp).trans hm
  show CallsIn Fence.wide 2 Tryz.prog 73 #[.func (.yield l) #[] #[], .pointer (some ⟨p, o, none⟩)] W _
  refine callsIn_of_wp Tryz.func73 rfl trivial ?_ rfl
  simp only [Tryz.ntmps73, List.size_toArray, List.length_cons, List.length_nil, Nat.reduceAdd, Nat.reduceSub, Array.replicate_succ, Array.replicate_zero, List.push_toArray, List.append_toArray, List.nil_append, List.cons_append]
  gi_wp2_with (first
    | (gi_at_range; refine wpListIn_range_own _ rfl _ 69 rfl 3 3 (int_keyed Tryz.underlying3) Tryz.underlying69 _ b nn _ rfl hown' ?_; intro w0 hrg0 hg0 hs0)
    | gi_in)
  go_frame
  gi_loopw [3] (fun _ wr => ∃ (left : Lit → Bool) (cnt : Nat) (ss : List Int), wr.ranges Tryz.prog 3 R b W.heap.size nn D0 left cnt ∧ ss.length + cnt ≤ Maps.size D0 ∧ CollectedI D0 left ss ∧ J ss wr) (fun _ wr => wr.rangeLeft b W.heap.size)
  case atStart => exact ⟨_, _, [], hrg0, by simp, CollectedI.start D0, hJ [] W w0 none h0 hg0 (fun r e => by cases e)⟩
  case round =>
    obtain ⟨left, cnt, ss, hrg, hcs, hC, hJs⟩ := hrel
    gi_wp2_with (first
      | (gi_at_next; refine wpListIn_next_ranges _ rfl _ rfl 3 (int_keyed Tryz.underlying3) R encZ id (fun key kl hk => by obtain ⟨x, hx, _⟩ := Maps.keyOf_i64 Tryz.underlying3 hk; exact ⟨x, hx⟩) (fun v _ _ => ⟨v, rfl⟩) b W.heap.size nn _ _ _ rfl hrg ?_ ?_)
      | gi_in)
    · intro hc0 hl0
      gi_wp2
      go_end0
      exact ⟨⟨_, rfl⟩, ss, hC.perm hown' (int_keyed Tryz.underlying3) Tryz.underlying3 hl0, hJs⟩
    · intro x c kl yd yp w2 cnt2 hkey hlk hv hat hrg2 hlt hg2 hs2 hen
      obtain ⟨x', ex, rfl, _⟩ := Maps.keyOf_i64 Tryz.underlying3 hkey
      obtain rfl : x = x' := encZ_inj ex
      have hJ2 : J ss w2 := hJ ss wr w2 (some W.heap.size) hJs hg2 (fun r e => by cases e; exact ⟨Nat.le_refl _, hrg.iter_walk⟩)
      obtain ⟨fn, tmps, assign, body, hy, hR⟩ := hY ss x w2 hJ2 (by omega)
      clear hs2
      gi_wp2
      refine hR.mono ?_
      rintro e W3 ⟨rfl, hJ3, hk3⟩
      gi_wp2
      have hrg3 := hrg2.of_walks hk3
      go_roundw
      case rel => exact ⟨_, cnt2, ss ++ [x], hrg3, by simp; omega, hC.step hlk hat, hJ3⟩
      case measure => rw [hrg3.left_eq, hrg.left_eq]; exact hlt
set_option maxHeartbeats 1000000 in
open Go.RowKit Go.Maps Go.Sort Go.Shelf in
theorem srt38_73 : SrtAt Tryz.prog 38 73 := srtAt_of Tryz.underlying3 ⟨_, _, Tryz.func38, rfl, by kernel_rfl⟩ fun W p o b D hc hown hsz => by
  refine (callsIn_wide (n := 5)).1 ?_
  have hp : p < W.heap.size := by
    rcases Nat.lt_or_ge p W.heap.size with h | h
    · exact h
    · simp [World.cell?, Array.getElem?_eq_none h] at hc
  have hseq := ky73 p o b 1000000 D W hp hc hown
  have cS := AnyZI.sorted_in Tryz.sorted38 Fence.wide 5 trivial trivial trivial trivial rfl (by omega) (sorts38 _) (enters_of Tryz.func72 (by kernel_rfl) rfl) 73 #[.pointer (some ⟨p, o, none⟩)] trivial (enters_of Tryz.func73 (by kernel_rfl) rfl) _ _ (Nat.le_trans hsz (by decide)) (by omega) _ hseq
  exact cS
theorem srt_ok : ∀ f k, env.srt f k = true → SrtAt Tryz.prog f k := fun f k h => by
  have h : (Nat.beq f 38 && (Nat.beq k 73)) = true := h
  simp only [Bool.and_eq_true] at h
  have e := beq_true h.1
  subst e
  rcases h.2 with h
  · have e := beq_true h; subst e; exact srt38_73
theorem ti_all : (List.range 230).map ti = (List.range 230).map (tiOf Tryz.prog) := by kernel_rfl
theorem fn_all : (List.range 197).map fn = (List.range 197).map (fnSel 38841232331607657045870369939056255406682618774667280 Tryz.prog) := by kernel_rfl
theorem ti_none (t : Nat) (h : 230 ≤ t) : ti t = none := by unfold ti; rw [(Heap.blt_false h : Nat.blt t 230 = false)]; rfl
theorem fn_none (t : Nat) (h : 197 ≤ t) : fn t = none := by unfold fn; rw [(Heap.blt_false h : Nat.blt t 197 = false)]; rfl
theorem env_ok : EnvOk env Tryz.prog := envOk (n := 230) (m := 197) (mask := 38841232331607657045870369939056255406682618774667280) ti_all ti_none fn_all fn_none (told_of Go.Proofs.Tryz.laysM144 (fun f h => beq_true h) rfl) dlf_ok srt_ok (by kernel_rfl)
end Go.Proofs.AmEnv
