/- The tables of this program's types and functions, facts on them, and the rules. Conditions: none. -/
import Derived.Test.YthoghikipmifeaaDoorCode
set_option linter.unusedVariables false
set_option linter.unusedSimpArgs false
set_option linter.unusedSectionVars false
set_option linter.defProp false
set_option maxRecDepth 100000
set_option maxHeartbeats 4000000
namespace Go.Proofs.AmEnv
abbrev C3{α:Type}(t m:Nat)(a b:α):α:=bif Nat.blt t m then a else b
abbrev C2{α:Type}(t m:Nat)(a:α):Option α:=bif Nat.beq t m then some a else none
open Go.AM
noncomputable def YH:TI:=⟨.int .i64,1,8,.int .i64 0⟩
noncomputable def ty3:TI:=⟨.int .i64,1,8,.int .i64 0⟩
noncomputable def ty4:TI:=⟨.bool,1,1,.bool false⟩
noncomputable def EV:TI:=⟨.string,1,16,.str []⟩
noncomputable def UU:TI:=⟨.iface,1,16,.niliface⟩
noncomputable def BP:TI:=⟨.int .i32,1,4,.int .i32 0⟩
noncomputable def iH:TI:=⟨.slice 54,1,24,.nilsl⟩
noncomputable def iI:TI:=⟨.slice 41,1,24,.nilsl⟩
noncomputable def Rt:TI:=⟨.struct [(22,0),(23,1)] false,2,48,.agg [.nilsl,.nilsl]⟩
noncomputable def Fe:TI:=⟨.slice 3,1,24,.nilsl⟩
noncomputable def UV:TI:=⟨.int .i64,1,8,.int .i64 0⟩
noncomputable def UW:TI:=⟨.func,1,8,.nilfn⟩
noncomputable def UX:TI:=⟨.func,1,8,.nilfn⟩
noncomputable def Zk:TI:=⟨.struct [(26,0),(3,1),(3,2)] false,3,40,.agg [.nilsl,(.int .i64 0),(.int .i64 0)]⟩
noncomputable def UY:TI:=⟨.func,1,8,.nilfn⟩
noncomputable def UZ:TI:=⟨.func,1,8,.nilfn⟩
noncomputable def dO:TI:=⟨.slice 46,1,24,.nilsl⟩
noncomputable def o7:TI:=⟨.struct [(9,0),(3,1),(3,2),(26,3),(39,4)] false,5,80,.agg [(.str []),(.int .i64 0),(.int .i64 0),.nilsl,.nilsl]⟩
noncomputable def Vd:TI:=⟨.slice 49,1,24,.nilsl⟩
noncomputable def VA:TI:=⟨.struct [(3,0),(3,1),(3,2),(3,3)] true,4,32,.agg [(.int .i64 0),(.int .i64 0),(.int .i64 0),(.int .i64 0)]⟩
noncomputable def Lg:TI:=⟨.struct [(3,0),(3,1),(3,2),(3,3)] true,4,32,.agg [(.int .i64 0),(.int .i64 0),(.int .i64 0),(.int .i64 0)]⟩
noncomputable def VB:TI:=⟨.struct [(42,0),(44,1)] false,5,56,.agg [.nilsl,(.int .i64 0),(.int .i64 0),(.int .i64 0),(.int .i64 0)]⟩
noncomputable def l5:TI:=⟨.struct [(42,0),(44,1)] false,5,56,.agg [.nilsl,(.int .i64 0),(.int .i64 0),(.int .i64 0),(.int .i64 0)]⟩
noncomputable def VC:TI:=⟨.func,1,8,.nilfn⟩
noncomputable def Z4:TI:=⟨.struct [(3,0),(3,1),(3,2),(3,3),(3,4),(3,5),(9,6),(26,7)] false,8,88,.agg [(.int .i64 0),(.int .i64 0),(.int .i64 0),(.int .i64 0),(.int .i64 0),(.int .i64 0),(.str []),.nilsl]⟩
noncomputable def Cg:TI:=⟨.struct [(9,0),(3,1),(3,2),(3,3)] true,4,40,.agg [(.str []),(.int .i64 0),(.int .i64 0),(.int .i64 0)]⟩
noncomputable def VD:TI:=⟨.func,1,8,.nilfn⟩
noncomputable def Zl:TI:=⟨.struct [(25,0),(41,2)] false,7,128,.agg [.nilsl,.nilsl,(.str []),(.int .i64 0),(.int .i64 0),.nilsl,.nilsl]⟩
noncomputable def VE:TI:=⟨.func,1,8,.nilfn⟩
noncomputable def VF:TI:=⟨.func,1,8,.nilfn⟩
noncomputable def VG:TI:=⟨.func,1,8,.nilfn⟩
noncomputable def rV:TI:=⟨.ptr 66,1,8,.nilptr⟩
noncomputable def nS:TI:=⟨.slice 26,1,24,.nilsl⟩
noncomputable def Nx:TI:=⟨.struct [(25,0),(26,2),(3,3),(64,4),(36,5),(3,8)] false,9,152,.agg [.nilsl,.nilsl,.nilsl,(.int .i64 0),.nilsl,.nilsl,(.int .i64 0),(.int .i64 0),(.int .i64 0)]⟩
noncomputable def dP:TI:=⟨.struct [(3,0),(3,1)] true,2,16,.agg [(.int .i64 0),(.int .i64 0)]⟩
noncomputable def VH:TI:=⟨.func,1,8,.nilfn⟩
noncomputable def nT:TI:=⟨.array 2 9,2,32,.agg [(.str []),(.str [])]⟩
noncomputable def rW:TI:=⟨.array 11 81,22,352,.agg [(.str []),(.str []),(.str []),(.str []),(.str []),(.str []),(.str []),(.str []),(.str []),(.str []),(.str []),(.str []),(.str []),(.str []),(.str []),(.str []),(.str []),(.str []),(.str []),(.str []),(.str []),(.str [])]⟩
noncomputable def VI:TI:=⟨.func,1,8,.nilfn⟩
noncomputable def VK:TI:=⟨.func,1,8,.nilfn⟩
noncomputable def VM:TI:=⟨.func,1,8,.nilfn⟩
noncomputable def rX:TI:=⟨.int .i8,1,1,.int .i8 0⟩
noncomputable def FZ:TI:=⟨.func,1,8,.nilfn⟩
noncomputable def GA:TI:=⟨.func,1,8,.nilfn⟩
noncomputable def rY:TI:=⟨.int .u64,1,8,.int .u64 0⟩
noncomputable def GB:TI:=⟨.array 0 16,0,0,.agg []⟩
noncomputable def GC:TI:=⟨.struct [(123,0)] false,0,0,.agg []⟩
noncomputable def ti(t:Nat):Option TI:=
 C3 t 47 (C3 t 32 (C3 t 21 (C3 t 4 (C3 t 3 (C2 t 2 YH) (C2 t 3 ty3)) (C3 t 9 (C2 t 4 ty4) (C3 t 20 (C2 t 9 EV) (C2 t 20 UU)))) (C3 t 25 (C3 t 22 (C2 t 21 BP) (C3 t 23 (C2 t 22 iH) (C2 t 23 iI))) (C3 t 26 (C2 t 25 Rt) (C3 t 31 (C2 t 26 Fe) (C2 t 31 UV))))) (C3 t 41 (C3 t 37 (C3 t 33 (C2 t 32 UW) (C3 t 36 (C2 t 33 UX) (C2 t 36 Zk))) (C3 t 38 (C2 t 37 UY) (C3 t 39 (C2 t 38 UZ) (C2 t 39 dO)))) (C3 t 44 (C3 t 42 (C2 t 41 o7) (C3 t 43 (C2 t 42 Vd) (C2 t 43 VA))) (C3 t 45 (C2 t 44 Lg) (C3 t 46 (C2 t 45 VB) (C2 t 46 l5)))))) (C3 t 77 (C3 t 61 (C3 t 55 (C3 t 49 (C2 t 47 VC) (C3 t 54 (C2 t 49 Z4) (C2 t 54 Cg))) (C3 t 57 (C2 t 55 VD) (C3 t 60 (C2 t 57 Zl) (C2 t 60 VE)))) (C3 t 64 (C3 t 62 (C2 t 61 VF) (C3 t 63 (C2 t 62 VG) (C2 t 63 rV))) (C3 t 66 (C2 t 64 nS) (C3 t 68 (C2 t 66 Nx) (C2 t 68 dP))))) (C3 t 103 (C3 t 85 (C3 t 81 (C2 t 77 VH) (C3 t 82 (C2 t 81 nT) (C2 t 82 rW))) (C3 t 94 (C2 t 85 VI) (C3 t 97 (C2 t 94 VK) (C2 t 97 VM)))) (C3 t 113 (C3 t 105 (C2 t 103 rX) (C3 t 109 (C2 t 105 FZ) (C2 t 109 GA))) (C3 t 123 (C2 t 113 rY) (C3 t 124 (C2 t 123 GB) (C2 t 124 GC))))))
noncomputable def fn(f:Nat):Option FI:=
 C3 f 38 (C3 f 20 (C3 f 11 (C3 f 7 (C3 f 5 (C3 f 4 (C2 f 3 fi3) (C2 f 4 fi4)) (C3 f 6 (C2 f 5 fi5) (C2 f 6 fi6))) (C3 f 9 (C3 f 8 (C2 f 7 fi7) (C2 f 8 fi8)) (C3 f 10 (C2 f 9 fi9) (C2 f 10 PS)))) (C3 f 15 (C3 f 13 (C3 f 12 (C2 f 11 PV) (C2 f 12 PX)) (C3 f 14 (C2 f 13 PZ) (C2 f 14 QB))) (C3 f 17 (C3 f 16 (C2 f 15 QD) (C2 f 16 QF)) (C3 f 18 (C2 f 17 QH) (C3 f 19 (C2 f 18 QJ) (C2 f 19 QL)))))) (C3 f 29 (C3 f 24 (C3 f 22 (C3 f 21 (C2 f 20 QN) (C2 f 21 QP)) (C3 f 23 (C2 f 22 QR) (C2 f 23 QT))) (C3 f 26 (C3 f 25 (C2 f 24 QW) (C2 f 25 QY)) (C3 f 27 (C2 f 26 RA) (C3 f 28 (C2 f 27 RD) (C2 f 28 RF))))) (C3 f 33 (C3 f 31 (C3 f 30 (C2 f 29 RH) (C2 f 30 RJ)) (C3 f 32 (C2 f 31 RL) (C2 f 32 RN))) (C3 f 35 (C3 f 34 (C2 f 33 RP) (C2 f 34 RR)) (C3 f 36 (C2 f 35 RT) (C3 f 37 (C2 f 36 RV) (C2 f 37 RX))))))) (C3 f 56 (C3 f 46 (C3 f 42 (C3 f 40 (C3 f 39 (C2 f 38 RZ) (C2 f 39 SB)) (C3 f 41 (C2 f 40 SD) (C2 f 41 SF))) (C3 f 44 (C3 f 43 (C2 f 42 SH) (C2 f 43 SJ)) (C3 f 45 (C2 f 44 SL) (C2 f 45 SN)))) (C3 f 50 (C3 f 48 (C3 f 47 (C2 f 46 SP) (C2 f 47 SR)) (C3 f 49 (C2 f 48 ST) (C2 f 49 SV))) (C3 f 52 (C3 f 51 (C2 f 50 SX) (C2 f 51 SZ)) (C3 f 53 (C2 f 52 TB) (C3 f 55 (C2 f 53 TF) (C2 f 55 TH)))))) (C3 f 65 (C3 f 60 (C3 f 58 (C3 f 57 (C2 f 56 TK) (C2 f 57 TM)) (C3 f 59 (C2 f 58 TO) (C2 f 59 TQ))) (C3 f 62 (C3 f 61 (C2 f 60 TS) (C2 f 61 TU)) (C3 f 63 (C2 f 62 TW) (C3 f 64 (C2 f 63 TY) (C2 f 64 UA))))) (C3 f 70 (C3 f 68 (C3 f 67 (C2 f 65 UC) (C2 f 67 UE)) (C3 f 69 (C2 f 68 UG) (C2 f 69 UI))) (C3 f 72 (C3 f 71 (C2 f 70 UK) (C2 f 71 UM)) (C3 f 74 (C2 f 72 UO) (C3 f 75 (C2 f 74 UQ) (C2 f 75 US)))))))
noncomputable def env:Env:=⟨ti,fn,fun g=>bif Nat.beq g 0 then some (.agg [.str [43],.str [43],.str [42],.str [42],.str [38],.str [38],.str [124],.str [124],.str [94],.str [94],.str [61,61],.str [61,61],.str [33,61],.str [33,61],.str [60],.str [62],.str [62],.str [60],.str [60,61],.str [62,61],.str [62,61],.str [60,61]])else none,fun f=>Nat.beq f 54,some 1,fun _=>false,fun _=>none,fun _ _=>false⟩
noncomputable section
def A1(f:Nat):Option PFn:=C3 f 38 (C3 f 20 (C3 f 11 (C3 f 7 (C3 f 5 (C3 f 4 (C2 f 3 pf3) (C2 f 4 pf4)) (C3 f 6 (C2 f 5 pf5) (C2 f 6 pf6))) (C3 f 9 (C3 f 8 (C2 f 7 pf7) (C2 f 8 pf8)) (C3 f 10 (C2 f 9 pf9) (C2 f 10 PU)))) (C3 f 15 (C3 f 13 (C3 f 12 (C2 f 11 PW) (C2 f 12 PY)) (C3 f 14 (C2 f 13 QA) (C2 f 14 QC))) (C3 f 17 (C3 f 16 (C2 f 15 QE) (C2 f 16 QG)) (C3 f 18 (C2 f 17 QI) (C3 f 19 (C2 f 18 QK) (C2 f 19 QM)))))) (C3 f 29 (C3 f 24 (C3 f 22 (C3 f 21 (C2 f 20 QO) (C2 f 21 QQ)) (C3 f 23 (C2 f 22 QS) (C2 f 23 QU))) (C3 f 26 (C3 f 25 (C2 f 24 QX) (C2 f 25 QZ)) (C3 f 27 (C2 f 26 RB) (C3 f 28 (C2 f 27 RE) (C2 f 28 RG))))) (C3 f 33 (C3 f 31 (C3 f 30 (C2 f 29 RI) (C2 f 30 RK)) (C3 f 32 (C2 f 31 RM) (C2 f 32 RO))) (C3 f 35 (C3 f 34 (C2 f 33 RQ) (C2 f 34 RS)) (C3 f 36 (C2 f 35 RU) (C3 f 37 (C2 f 36 RW) (C2 f 37 RY))))))) (C3 f 56 (C3 f 46 (C3 f 42 (C3 f 40 (C3 f 39 (C2 f 38 SA) (C2 f 39 SC)) (C3 f 41 (C2 f 40 SE) (C2 f 41 SG))) (C3 f 44 (C3 f 43 (C2 f 42 SI) (C2 f 43 SK)) (C3 f 45 (C2 f 44 SM) (C2 f 45 SO)))) (C3 f 50 (C3 f 48 (C3 f 47 (C2 f 46 SQ) (C2 f 47 SS)) (C3 f 49 (C2 f 48 SU) (C2 f 49 SW))) (C3 f 52 (C3 f 51 (C2 f 50 SY) (C2 f 51 TA)) (C3 f 53 (C2 f 52 TE) (C3 f 55 (C2 f 53 TG) (C2 f 55 TJ)))))) (C3 f 65 (C3 f 60 (C3 f 58 (C3 f 57 (C2 f 56 TL) (C2 f 57 TN)) (C3 f 59 (C2 f 58 TP) (C2 f 59 TR))) (C3 f 62 (C3 f 61 (C2 f 60 TT) (C2 f 61 TV)) (C3 f 63 (C2 f 62 TX) (C3 f 64 (C2 f 63 TZ) (C2 f 64 UB))))) (C3 f 70 (C3 f 68 (C3 f 67 (C2 f 65 UD) (C2 f 67 UF)) (C3 f 69 (C2 f 68 UH) (C2 f 69 UJ))) (C3 f 72 (C3 f 71 (C2 f 70 UL) (C2 f 71 UN)) (C3 f 74 (C2 f 72 UP) (C3 f 75 (C2 f 74 UR) (C2 f 75 UT)))))))
end
end Go.Proofs.AmEnv
set_option maxRecDepth 100000
set_option linter.unusedVariables false
namespace Go.Proofs.AmEnv
open Go Go.AM
noncomputable section
theorem ont2{f:TI->OpS}:V9 env 2 f=f YH:=rfl
theorem ont3{f:TI->OpS}:V9 env 3 f=f ty3:=rfl
theorem YI:env.ti 3=some ty3:=rfl
theorem ty3_z:ty3.size=1:=rfl
theorem ty3_b:ty3.bytes=8:=rfl
theorem ty3_d:ty3.desc=.int .i64:=rfl
theorem ft3:flatT ty3=true:=rfl
theorem ty3_0:ty3.zero=.int .i64 0:=rfl
theorem pt3(cs:List AV)(o:Nat):partOf ty3 cs o=cs[o]?:=O2 rfl cs o
theorem ont9{f:TI->OpS}:V9 env 9 f=f EV:=rfl
theorem ti9:env.ti 9=some EV:=rfl
theorem ty9_z:EV.size=1:=rfl
theorem pt9(cs:List AV)(o:Nat):partOf EV cs o=cs[o]?:=O2 rfl cs o
theorem ont21{f:TI->OpS}:V9 env 21 f=f BP:=rfl
theorem ty21_d:BP.desc=.int .i32:=rfl
theorem ont22{f:TI->OpS}:V9 env 22 f=f iH:=rfl
theorem VP:env.ti 22=some iH:=rfl
theorem ty22_d:iH.desc=.slice 54:=rfl
theorem pt22(cs:List AV)(o:Nat):partOf iH cs o=cs[o]?:=O2 rfl cs o
theorem el22:elemOfT env (.slice 54)=some Cg:=rfl
theorem ln22(l:List TypeId)(x:AV)(r:List AV)(K:PK):E9 env .len (22::l) (x::r) K=AY x K:=rfl
theorem ap22(l:List TypeId)(s x:AV)(r:List AV)(K:PK):E9 env .append (22::22::l) (s::x::r) K=X3 Cg s x K:=rfl
theorem ix22(x:AV)(i:AV):Ec env iH x i=Hs Cg x i:=rfl
theorem ont23{f:TI->OpS}:V9 env 23 f=f iI:=rfl
theorem VS:env.ti 23=some iI:=rfl
theorem ty23_d:iI.desc=.slice 41:=rfl
theorem pt23(cs:List AV)(o:Nat):partOf iI cs o=cs[o]?:=O2 rfl cs o
theorem el23:elemOfT env (.slice 41)=some o7:=rfl
theorem ln23(l:List TypeId)(x:AV)(r:List AV)(K:PK):E9 env .len (23::l) (x::r) K=AY x K:=rfl
theorem ap23(l:List TypeId)(s x:AV)(r:List AV)(K:PK):E9 env .append (23::23::l) (s::x::r) K=X3 o7 s x K:=rfl
theorem ix23(x:AV)(i:AV):Ec env iI x i=Hs o7 x i:=rfl
theorem ont25{f:TI->OpS}:V9 env 25 f=f Rt:=rfl
theorem VT:env.ti 25=some Rt:=rfl
theorem ty25_z:Rt.size=2:=rfl
theorem ty25_0:Rt.zero=.agg [.nilsl,.nilsl]:=rfl
def BQ(i:Nat):Option (Nat×Nat):=A4 (Ic [(22,0),(23,1)] i) fun f=>onTI env f.1 none fun g=>some (f.2,g.size)
theorem bd25(ps:List (Nat×AV)):M7 env Rt ps=vZ (M2 BQ ps Rt.zero.cells):=rfl
theorem pl25_0:BQ 0=some (0,1):=rfl
theorem fq25_0(x:AV):F4 env Rt 0 x=B0 x 0:=rfl
theorem pl25_1:BQ 1=some (1,1):=rfl
theorem fq25_1(x:AV):F4 env Rt 1 x=B0 x 1:=rfl
theorem pt25(cs:List AV)(o:Nat):partOf Rt cs o=if o+2<=cs.length then some (.agg ((cs.drop o).take 2))else none:=V5 rfl cs o
theorem ont26{f:TI->OpS}:V9 env 26 f=f Fe:=rfl
theorem VU:env.ti 26=some Fe:=rfl
theorem ty26_z:Fe.size=1:=rfl
theorem ty26_b:Fe.bytes=24:=rfl
theorem ty26_d:Fe.desc=.slice 3:=rfl
theorem ft26:flatT Fe=false:=rfl
theorem ty26_0:Fe.zero=.nilsl:=rfl
theorem pt26(cs:List AV)(o:Nat):partOf Fe cs o=cs[o]?:=O2 rfl cs o
theorem el26:elemOfT env (.slice 3)=some ty3:=rfl
theorem ln26(l:List TypeId)(x:AV)(r:List AV)(K:PK):E9 env .len (26::l) (x::r) K=AY x K:=rfl
theorem ap26(l:List TypeId)(s x:AV)(r:List AV)(K:PK):E9 env .append (26::26::l) (s::x::r) K=X3 ty3 s x K:=rfl
theorem ix26(x:AV)(i:AV):Ec env Fe x i=Hs ty3 x i:=rfl
theorem ont36{f:TI->OpS}:V9 env 36 f=f Zk:=rfl
theorem ty36_z:Zk.size=3:=rfl
theorem ty36_0:Zk.zero=.agg [.nilsl,(.int .i64 0),(.int .i64 0)]:=rfl
def wO(i:Nat):Option (Nat×Nat):=A4 (Ic [(26,0),(3,1),(3,2)] i) fun f=>onTI env f.1 none fun g=>some (f.2,g.size)
theorem bd36(ps:List (Nat×AV)):M7 env Zk ps=vZ (M2 wO ps Zk.zero.cells):=rfl
theorem pl36_0:wO 0=some (0,1):=rfl
theorem fq36_0(x:AV):F4 env Zk 0 x=B0 x 0:=rfl
theorem pl36_1:wO 1=some (1,1):=rfl
theorem fq36_1(x:AV):F4 env Zk 1 x=B0 x 1:=rfl
theorem pl36_2:wO 2=some (2,1):=rfl
theorem fq36_2(x:AV):F4 env Zk 2 x=B0 x 2:=rfl
theorem ont39{f:TI->OpS}:V9 env 39 f=f dO:=rfl
theorem VW:env.ti 39=some dO:=rfl
theorem ty39_z:dO.size=1:=rfl
theorem ty39_d:dO.desc=.slice 46:=rfl
theorem pt39(cs:List AV)(o:Nat):partOf dO cs o=cs[o]?:=O2 rfl cs o
theorem el39:elemOfT env (.slice 46)=some l5:=rfl
theorem ln39(l:List TypeId)(x:AV)(r:List AV)(K:PK):E9 env .len (39::l) (x::r) K=AY x K:=rfl
theorem ap39(l:List TypeId)(s x:AV)(r:List AV)(K:PK):E9 env .append (39::39::l) (s::x::r) K=X3 l5 s x K:=rfl
theorem ix39(x:AV)(i:AV):Ec env dO x i=Hs l5 x i:=rfl
theorem ont41{f:TI->OpS}:V9 env 41 f=f o7:=rfl
theorem BR:env.ti 41=some o7:=rfl
theorem ty41_z:o7.size=5:=rfl
theorem ty41_b:o7.bytes=80:=rfl
theorem ft41:flatT o7=false:=rfl
theorem ty41_0:o7.zero=.agg [(.str []),(.int .i64 0),(.int .i64 0),.nilsl,.nilsl]:=rfl
def nU(i:Nat):Option (Nat×Nat):=A4 (Ic [(9,0),(3,1),(3,2),(26,3),(39,4)] i) fun f=>onTI env f.1 none fun g=>some (f.2,g.size)
theorem bd41(ps:List (Nat×AV)):M7 env o7 ps=vZ (M2 nU ps o7.zero.cells):=rfl
theorem pl41_0:nU 0=some (0,1):=rfl
theorem fq41_0(x:AV):F4 env o7 0 x=B0 x 0:=rfl
theorem pl41_1:nU 1=some (1,1):=rfl
theorem fq41_1(x:AV):F4 env o7 1 x=B0 x 1:=rfl
theorem pl41_2:nU 2=some (2,1):=rfl
theorem fq41_2(x:AV):F4 env o7 2 x=B0 x 2:=rfl
theorem pl41_3:nU 3=some (3,1):=rfl
theorem fq41_3(x:AV):F4 env o7 3 x=B0 x 3:=rfl
theorem pl41_4:nU 4=some (4,1):=rfl
theorem fq41_4(x:AV):F4 env o7 4 x=B0 x 4:=rfl
theorem pt41(cs:List AV)(o:Nat):partOf o7 cs o=if o+5<=cs.length then some (.agg ((cs.drop o).take 5))else none:=V5 rfl cs o
theorem ont42{f:TI->OpS}:V9 env 42 f=f Vd:=rfl
theorem VX:env.ti 42=some Vd:=rfl
theorem ty42_d:Vd.desc=.slice 49:=rfl
theorem pt42(cs:List AV)(o:Nat):partOf Vd cs o=cs[o]?:=O2 rfl cs o
theorem el42:elemOfT env (.slice 49)=some Z4:=rfl
theorem ln42(l:List TypeId)(x:AV)(r:List AV)(K:PK):E9 env .len (42::l) (x::r) K=AY x K:=rfl
theorem ap42(l:List TypeId)(s x:AV)(r:List AV)(K:PK):E9 env .append (42::42::l) (s::x::r) K=X3 Z4 s x K:=rfl
theorem ix42(x:AV)(i:AV):Ec env Vd x i=Hs Z4 x i:=rfl
theorem ont44{f:TI->OpS}:V9 env 44 f=f Lg:=rfl
theorem VY:env.ti 44=some Lg:=rfl
theorem ty44_z:Lg.size=4:=rfl
theorem ty44_0:Lg.zero=.agg [(.int .i64 0),(.int .i64 0),(.int .i64 0),(.int .i64 0)]:=rfl
def GD(i:Nat):Option (Nat×Nat):=A4 (Ic [(3,0),(3,1),(3,2),(3,3)] i) fun f=>onTI env f.1 none fun g=>some (f.2,g.size)
theorem bd44(ps:List (Nat×AV)):M7 env Lg ps=vZ (M2 GD ps Lg.zero.cells):=rfl
theorem pl44_0:GD 0=some (0,1):=rfl
theorem fq44_0(x:AV):F4 env Lg 0 x=B0 x 0:=rfl
theorem fq44_1(x:AV):F4 env Lg 1 x=B0 x 1:=rfl
theorem fq44_2(x:AV):F4 env Lg 2 x=B0 x 2:=rfl
theorem fq44_3(x:AV):F4 env Lg 3 x=B0 x 3:=rfl
theorem pt44(cs:List AV)(o:Nat):partOf Lg cs o=if o+4<=cs.length then some (.agg ((cs.drop o).take 4))else none:=V5 rfl cs o
theorem ont46{f:TI->OpS}:V9 env 46 f=f l5:=rfl
theorem BS:env.ti 46=some l5:=rfl
theorem ty46_z:l5.size=5:=rfl
theorem ty46_b:l5.bytes=56:=rfl
theorem ft46:flatT l5=false:=rfl
theorem ty46_0:l5.zero=.agg [.nilsl,(.int .i64 0),(.int .i64 0),(.int .i64 0),(.int .i64 0)]:=rfl
def BT(i:Nat):Option (Nat×Nat):=A4 (Ic [(42,0),(44,1)] i) fun f=>onTI env f.1 none fun g=>some (f.2,g.size)
theorem bd46(ps:List (Nat×AV)):M7 env l5 ps=vZ (M2 BT ps l5.zero.cells):=rfl
theorem pl46_0:BT 0=some (0,1):=rfl
theorem fq46_0(x:AV):F4 env l5 0 x=B0 x 0:=rfl
theorem pl46_1:BT 1=some (1,4):=rfl
theorem fq46_1(x:AV):F4 env l5 1 x=B0 x 1:=rfl
theorem pt46(cs:List AV)(o:Nat):partOf l5 cs o=if o+5<=cs.length then some (.agg ((cs.drop o).take 5))else none:=V5 rfl cs o
theorem ont49{f:TI->OpS}:V9 env 49 f=f Z4:=rfl
theorem BU:env.ti 49=some Z4:=rfl
theorem ty49_z:Z4.size=8:=rfl
theorem ty49_b:Z4.bytes=88:=rfl
theorem ft49:flatT Z4=false:=rfl
theorem ty49_0:Z4.zero=.agg [(.int .i64 0),(.int .i64 0),(.int .i64 0),(.int .i64 0),(.int .i64 0),(.int .i64 0),(.str []),.nilsl]:=rfl
def nV(i:Nat):Option (Nat×Nat):=A4 (Ic [(3,0),(3,1),(3,2),(3,3),(3,4),(3,5),(9,6),(26,7)] i) fun f=>onTI env f.1 none fun g=>some (f.2,g.size)
theorem bd49(ps:List (Nat×AV)):M7 env Z4 ps=vZ (M2 nV ps Z4.zero.cells):=rfl
theorem pl49_0:nV 0=some (0,1):=rfl
theorem fq49_0(x:AV):F4 env Z4 0 x=B0 x 0:=rfl
theorem pl49_1:nV 1=some (1,1):=rfl
theorem fq49_1(x:AV):F4 env Z4 1 x=B0 x 1:=rfl
theorem fq49_2(x:AV):F4 env Z4 2 x=B0 x 2:=rfl
theorem pl49_3:nV 3=some (3,1):=rfl
theorem fq49_3(x:AV):F4 env Z4 3 x=B0 x 3:=rfl
theorem pl49_4:nV 4=some (4,1):=rfl
theorem fq49_4(x:AV):F4 env Z4 4 x=B0 x 4:=rfl
theorem fq49_5(x:AV):F4 env Z4 5 x=B0 x 5:=rfl
theorem pl49_6:nV 6=some (6,1):=rfl
theorem fq49_6(x:AV):F4 env Z4 6 x=B0 x 6:=rfl
theorem fq49_7(x:AV):F4 env Z4 7 x=B0 x 7:=rfl
theorem pt49(cs:List AV)(o:Nat):partOf Z4 cs o=if o+8<=cs.length then some (.agg ((cs.drop o).take 8))else none:=V5 rfl cs o
theorem ont54{f:TI->OpS}:V9 env 54 f=f Cg:=rfl
theorem BV:env.ti 54=some Cg:=rfl
theorem ty54_z:Cg.size=4:=rfl
theorem ty54_b:Cg.bytes=40:=rfl
theorem ft54:flatT Cg=true:=rfl
theorem ty54_0:Cg.zero=.agg [(.str []),(.int .i64 0),(.int .i64 0),(.int .i64 0)]:=rfl
theorem fq54_1(x:AV):F4 env Cg 1 x=B0 x 1:=rfl
theorem fq54_2(x:AV):F4 env Cg 2 x=B0 x 2:=rfl
theorem pt54(cs:List AV)(o:Nat):partOf Cg cs o=if o+4<=cs.length then some (.agg ((cs.drop o).take 4))else none:=V5 rfl cs o
theorem ont57{f:TI->OpS}:V9 env 57 f=f Zl:=rfl
theorem ty57_z:Zl.size=7:=rfl
theorem ty57_0:Zl.zero=.agg [.nilsl,.nilsl,(.str []),(.int .i64 0),(.int .i64 0),.nilsl,.nilsl]:=rfl
def BW(i:Nat):Option (Nat×Nat):=A4 (Ic [(25,0),(41,2)] i) fun f=>onTI env f.1 none fun g=>some (f.2,g.size)
theorem bd57(ps:List (Nat×AV)):M7 env Zl ps=vZ (M2 BW ps Zl.zero.cells):=rfl
theorem pl57_0:BW 0=some (0,2):=rfl
theorem fq57_0(x:AV):F4 env Zl 0 x=B0 x 0:=rfl
theorem pl57_1:BW 1=some (2,5):=rfl
theorem fq57_1(x:AV):F4 env Zl 1 x=B0 x 2:=rfl
theorem pt57(cs:List AV)(o:Nat):partOf Zl cs o=if o+7<=cs.length then some (.agg ((cs.drop o).take 7))else none:=V5 rfl cs o
theorem ont63{f:TI->OpS}:V9 env 63 f=f rV:=rfl
theorem ty63_z:rV.size=1:=rfl
theorem ty63_0:rV.zero=.nilptr:=rfl
theorem pt63(cs:List AV)(o:Nat):partOf rV cs o=cs[o]?:=O2 rfl cs o
theorem ont64{f:TI->OpS}:V9 env 64 f=f nS:=rfl
theorem ty64_z:nS.size=1:=rfl
theorem ty64_d:nS.desc=.slice 26:=rfl
theorem pt64(cs:List AV)(o:Nat):partOf nS cs o=cs[o]?:=O2 rfl cs o
theorem el64:elemOfT env (.slice 26)=some Fe:=rfl
theorem ap64(l:List TypeId)(s x:AV)(r:List AV)(K:PK):E9 env .append (64::64::l) (s::x::r) K=X3 Fe s x K:=rfl
theorem ix64(x:AV)(i:AV):Ec env nS x i=Hs Fe x i:=rfl
theorem ont66{f:TI->OpS}:V9 env 66 f=f Nx:=rfl
theorem ty66_z:Nx.size=9:=rfl
theorem ty66_0:Nx.zero=.agg [.nilsl,.nilsl,.nilsl,(.int .i64 0),.nilsl,.nilsl,(.int .i64 0),(.int .i64 0),(.int .i64 0)]:=rfl
def wP(i:Nat):Option (Nat×Nat):=A4 (Ic [(25,0),(26,2),(3,3),(64,4),(36,5),(3,8)] i) fun f=>onTI env f.1 none fun g=>some (f.2,g.size)
theorem bd66(ps:List (Nat×AV)):M7 env Nx ps=vZ (M2 wP ps Nx.zero.cells):=rfl
theorem pl66_0:wP 0=some (0,2):=rfl
theorem fq66_0(x:AV):F4 env Nx 0 x=B0 x 0:=rfl
theorem pl66_1:wP 1=some (2,1):=rfl
theorem fq66_1(x:AV):F4 env Nx 1 x=B0 x 2:=rfl
theorem pl66_2:wP 2=some (3,1):=rfl
theorem fq66_2(x:AV):F4 env Nx 2 x=B0 x 3:=rfl
theorem fq66_3(x:AV):F4 env Nx 3 x=B0 x 4:=rfl
theorem fq66_4(x:AV):F4 env Nx 4 x=B0 x 5:=rfl
theorem fq66_5(x:AV):F4 env Nx 5 x=B0 x 8:=rfl
theorem ont68{f:TI->OpS}:V9 env 68 f=f dP:=rfl
theorem ty68_z:dP.size=2:=rfl
theorem ty68_0:dP.zero=.agg [(.int .i64 0),(.int .i64 0)]:=rfl
def BX(i:Nat):Option (Nat×Nat):=A4 (Ic [(3,0),(3,1)] i) fun f=>onTI env f.1 none fun g=>some (f.2,g.size)
theorem bd68(ps:List (Nat×AV)):M7 env dP ps=vZ (M2 BX ps dP.zero.cells):=rfl
theorem pl68_0:BX 0=some (0,1):=rfl
theorem fq68_0(x:AV):F4 env dP 0 x=B0 x 0:=rfl
theorem pl68_1:BX 1=some (1,1):=rfl
theorem fq68_1(x:AV):F4 env dP 1 x=B0 x 1:=rfl
theorem ont81{f:TI->OpS}:V9 env 81 f=f nT:=rfl
theorem ty81_z:nT.size=2:=rfl
theorem ty81_0:nT.zero=.agg [(.str []),(.str [])]:=rfl
theorem ont82{f:TI->OpS}:V9 env 82 f=f rW:=rfl
theorem ont103{f:TI->OpS}:V9 env 103 f=f rX:=rfl
theorem ty103_d:rX.desc=.int .i8:=rfl
theorem ont113{f:TI->OpS}:V9 env 113 f=f rY:=rfl
theorem ty113_d:rY.desc=.int .u64:=rfl
end
theorem z0z{a b:Prop}(x:a)(y:b):a/\b:=⟨x,y⟩
def XQ:=z0z @e_seq<|z0z @seqP_normal<|z0z @seqP_exit<|z0z @seqP_ret<|z0z @seqP_pan<|z0z @e_skip<|z0z @e_exit<|z0z @e_ret<|z0z @e_reg<|z0z @e_regD<|z0z @e_pre<|z0z @e_cond<|z0z @condP_true<|z0z @condP_false<|z0z @e_block<|z0z @blkP_normal<|z0z @blkP_exit<|z0z @blkP_ret<|z0z @blkP_pan<|z0z @e_post<|z0z @postP_normal<|z0z @postP_exit<|z0z @postP_ret<|z0z @postP_pan<|z0z @callK_val<|z0z @callK_pan<|z0z @doP_val<|z0z @doP_call<|z0z @doP_pan<|z0z @e_nil<|z0z @e_op<|z0z @e_opS<|z0z @e_opY<|z0z @callD_val<|z0z @callD_pan<|z0z @callQ_pan<|z0z @v_nil<|z0z @v_late<|z0z @v_op<|z0z @doV_val<|z0z @doD_val<|z0z @doD_call<|z0z @callQ_val<|z0z @doQ_val<|z0z @doQ_call<|z0z @doQ_sep<|z0z @callQ_sep<|z0z @doS_val<|z0z @s_nil<|z0z @s_op<|z0z @s_ld<|z0z @cvs_nil<|z0z @cvs_cons<|z0z @s_opQ<|z0z @doSQ_val<|z0z @cv_ptr<|z0z @e_nilD<|z0z @d_op<|z0z @d_opQ<|z0z @d_opS<|z0z @d_opY<|z0z @d_opYQ<|z0z @bodyP_ret<|z0z @bodyP_norm<|z0z @bodyP_pan<|z0z @lk_hit<|z0z @lk_cons<|z0z @st_some<|z0z @st_none<|z0z @ov_tmp<|z0z @ov_int<|z0z @ov_bool<|z0z @ov_str<|z0z @ov_nsl<|z0z @ov_npt<|z0z @ov_func<|z0z @ol_nil<|z0z @ol_cons<|z0z @oq_nil<|z0z @oq_cons<|z0z @oo_none<|z0z @oo_some<|z0z @en_nil<|z0z @en_cons<|z0z @one_1<|z0z @one_2<|z0z @one_0<|z0z @ofV_some<|z0z @ofO_some<|z0z @pr_move<|z0z @pr_assign<|z0z @pr_pick<|z0z @pick_true<|z0z @pick_false<|z0z @pr_alloc<|z0z @pr_box<|z0z @pr_build<|z0z @pr_buildSl<|z0z @pr_load<|z0z @pr_store<|z0z @pr_nil<|z0z @pr_bin<|z0z @pr_un<|z0z @pr_conv<|z0z @pr_fn<|z0z @pr_slice<|z0z @pr_fa<|z0z @pr_ia<|z0z @pr_ix<|z0z @pr_ex<|z0z @pr_bui<|z0z @pr_call<|z0z @pr_callv<|z0z @callP_fn<|z0z @bp_add<|z0z @bp_sub<|z0z @bp_mul<|z0z @bp_eql<|z0z @bp_neq<|z0z @bp_lss<|z0z @bp_leq<|z0z @bp_gtr<|z0z @bp_geq<|z0z @bp_eqlS<|z0z @bp_neqS<|z0z @wt_true<|z0z @wt_false<|z0z @wt_skip<|z0z @as_nat<|z0z @ln_fsl<|z0z @ln_msl<|z0z @ix_fsl<|z0z @ix_msl<|z0z @exP_tup<|z0z @ld_f<|z0z @ld_p<|z0z @ldR_some<|z0z @ldE_some<|z0z @tb_nil<|z0z @tb_eq<|z0z @tbE_row<|z0z @te_eq<|z0z @teE_flat<|z0z @teE_row<|z0z @te_fsl<|z0z @ap_eq<|z0z @ap1_some<|z0z @ap2_some<|z0z @cl_int<|z0z @cl_bool<|z0z @cl_str<|z0z @cl_own<|z0z @cl_msl<|z0z @ag_int<|z0z @ag_agg<|z0z @cl_nsl<|z0z @ce_int<|z0z @ce_bool<|z0z @ce_str<|z0z @ce_agg<|z0z @ce_nsl<|z0z @ce_msl<|z0z @ce_own<|z0z @fl_nil<|z0z @fl_cons<|z0z @ro6<|z0z @rwE_row<|z0z @rwE_sub<|z0z @rwS_some<|z0z @rwC_some<|z0z @rwD_some<|z0z @ow_own<|z0z @rt_eq<|z0z @rtE_row<|z0z @rtE_sub<|z0z @ch_eq<|z0z @chE_row<|z0z @kp_eq<|z0z @kg_nil<|z0z @kg_row<|z0z @kg_dead<|z0z @kg_sub<|z0z @mf_nil<|z0z @mf_cons<|z0z @mo_nil<|z0z @mo_cons<|z0z @mp_1<|z0z @mp_2<|z0z @mk1_eq<|z0z @mk2_eq<|z0z @sm_eq<|z0z @smE_row<|z0z @smE_row1<|z0z @smE_dead<|z0z @mi_eq<|z0z @rs_nil<|z0z @rs_cons<|z0z @rg_0<|z0z @rg_1<|z0z @rg_2<|z0z @rg_3<|z0z @rg_4<|z0z @rp_nil<|z0z @rp_cons<|z0z @po_cons<|z0z @rv_int<|z0z @rv_bool<|z0z @rv_str<|z0z @rv_agg<|z0z @rv_fsl<|z0z @rv_msl<|z0z @rv_ptr<|z0z @rv_nsl<|z0z @rv_fn<|z0z @rl_nil<|z0z @rl_cons<|z0z @rnM_some<|z0z @rnP_some<|z0z @et_eq<|z0z @enE_some<|z0z @rp_row<|z0z @rp_row1<|z0z @rp_dead<|z0z @rf_int<|z0z @rf_bool<|z0z @rf_str<|z0z @rf_agg<|z0z @rf_fsl<|z0z @rf_msl<|z0z @rf_ptr<|z0z @rf_nsl<|z0z @rf_fn<|z0z @rfl_nil<|z0z @rfl_cons<|z0z @bk_nil<|z0z @bk_cons<|z0z @bv_eq<|z0z @bs_nil<|z0z @bs_cons<|z0z @bc_msl<|z0z @bc_int<|z0z @bc_str<|z0z @lv_agg<|z0z @lv_msl<|z0z @lv_int<|z0z @lv_bool<|z0z @lv_str<|z0z @lv_own<|z0z @lv_nsl<|z0z @hd_cons<|z0z @os_nil<|z0z @os_cons<|z0z @ot_nil<|z0z @ot_own<|z0z @ot_int<|z0z @ot_bool<|z0z @ot_str<|z0z @va_nil<|z0z @va_cons<|z0z @co_some<|z0z @vv_int<|z0z @vv_bool<|z0z @vv_str<|z0z @wv_int<|z0z @wv_str<|z0z @agO_some<|z0z @vv_agg<|z0z @vl_nil<|z0z @vl_cons<|z0z @fsO_some<|z0z @vv_msl<|z0z @wv_msl<|z0z @vmE_some<|z0z @fz_nil<|z0z @fz_cons<|z0z @fz_int<|z0z @fz_str<|z0z @fz_agg<|z0z @fz_own<|z0z @nf_int<|z0z @nf_bool<|z0z @nf_str<|z0z @nf_agg<|z0z @nf_own<|z0z @nfl_nil<|z0z @nfl_cons<|z0z @or_nil<|z0z @or_cons<|z0z @on_int<|z0z @on_bool<|z0z @on_str<|z0z @ok_int<|z0z @ok_str<|z0z @ok_msl<|z0z @ok_ptr<|z0z @ok_nsl<|z0z @nr_eq<|z0z @bx_eq<|z0z @wc_agg<|z0z @wc_int<|z0z @wc_nsl<|z0z @ra_eq<|z0z @raE_0<|z0z @raE_1<|z0z @raE_sub<|z0z @sr_eq<|z0z @srE_row<|z0z @srE_sub<|z0z @srS_some<|z0z @srC_some<|z0z @srD_some<|z0z @spR_some<|z0z @spE_some<|z0z @spB_true<|z0z @spB_false<|z0z @spC_true<|z0z @spC_false<|z0z @spO_some<|z0z @spQ_some<|z0z @spS_some<|z0z @rl_1<|z0z @sc_nil<|z0z @sc_clo<|z0z @sc_msl<|z0z @scM_row<|z0z @scK_some<|z0z @rsT_some<|z0z @rsC_val<|z0z @rsO_some<|z0z @rs_0<|z0z @rs_tmp<|z0z @rs_cell<|z0z @ok_fslN<|z0z @ce_fslN<|z0z @rf_fslN<|z0z @rv_fslN<|z0z @fz_fslN<|z0z @vv_fslN<|z0z @wv_fslN<|z0z @ln_fslN<|z0z @ix_fslN<|z0z @lv_fslN<|z0z @te_fslN<|z0z @pf_f<|z0z @pf_p<|z0z @ldW_eq<|z0z @oc_nil<|z0z @oc_own<|z0z @oc_int<|z0z @oc_str<|z0z @oc_fslN<|z0z @oc_msl<|z0z @oc_ptr<|z0z @oc_nsl<|z0z @lv_ptr<|z0z @ce_ptr<|z0z @bs_eq<|z0z @bsE_some<|z0z @pl_nil<|z0z @pl_cons<|z0z @plE_some<|z0z @rl_0<|z0z @rl_2<|z0z @rl_3<|z0z @rl_5<|z0z @rl_7<|z0z @rl_8<|z0z @tk_all<|z0z @fp_ok<|z0z @fbK_some<|z0z @fb_nil<|z0z @fbP_some<|z0z @fb_cons<|z0z @agM_some<|z0z @inpK_val<|z0z @wp_eq<|z0z @wpE_some<|z0z @ap2_nil<|z0z @ro5<|z0z @pr_pan<|z0z @panP_i<|z0z @nc_ptr<|z0z @inpK_pan<|z0z @fl_none<|z0z @bc_nsl0<|z0z @ot_nsl<|z0z @rtQ_eq<|z0z @rtQ_row<|z0z @Option.map_some.{0,0}<|z0z @List.take_succ_cons.{0}<|z0z @List.take_zero.{0}<|z0z @List.drop_succ_cons.{0}<|z0z @List.drop_zero.{0}<|z0z @Option.map_none.{0,0}<|z0z @List.all_cons.{0}<|z0z @List.all_nil.{0}<|z0z @List.isEmpty_cons.{0}<|z0z @List.isEmpty_nil.{0}<|z0z @List.mem_cons.{0}<|z0z @List.not_mem_nil.{0}<|z0z @or_false<|z0z @false_or<|z0z @or_true<|z0z @true_or<|z0z @not_false_eq_true<|z0z @not_true_eq_false<|z0z @and_true<|z0z @true_and<|z0z @and_self<|z0z @Bool.and_self<|z0z @Bool.and_true<|z0z @Bool.true_and<|z0z @List.set_cons_zero.{0}<|z0z @List.set_cons_succ.{0}<|z0z @List.flatMap_cons.{0,0}<|z0z @List.flatMap_nil.{0,0}<|z0z @List.filter_cons.{0}<|z0z @List.filter_nil.{0}<|z0z @eq_self.{1}<|z0z @List.nodup_cons.{0}<|z0z @List.nodup_nil.{0}<|z0z @Option.isSome_some.{0}<|z0z @Option.isSome_none.{0}<|z0z @Bool.or_true<|z0z @Bool.or_false<|z0z @Bool.true_or<|z0z @Bool.false_or<|z0z @Nat.le_refl<|z0z @Nat.lt_irrefl<|z0z @Nat.not_lt_zero<|z0z @Nat.zero_le<|z0z @decide_eq_true_eq<|z0z @ne_eq.{1}<|z0z @List.cons_append.{0}<|z0z @List.nil_append.{0}<|z0z @List.append_nil.{0}<|z0z @List.length_cons.{0}<|z0z @List.length_nil.{0}<|z0z @List.getElem?_cons_zero.{0}<|z0z @List.getElem?_cons_succ.{0}<|z0z @List.getElem?_nil.{0}<|z0z @Nat.add_zero<|z0z @Bool.not_true<|z0z @Bool.not_false<|z0z @decide_true<|z0z @decide_false<|z0z @Option.some.injEq.{0}<|z0z @Bool.true_eq_false<|z0z @Bool.false_eq_true<|z0z @u_not<|z0z @Option.isNone_some.{0}<|z0z @Option.isNone_none.{0}<|z0z @Bool.and_false<|z0z @Bool.false_and<|z0z @cond_false.{1}<|z0z @cond_true.{1}<|z0z @ont2<|z0z @ont3<|z0z @ty3_z<|z0z @ty3_b<|z0z @ty3_d<|z0z @ft3<|z0z @ty3_0<|z0z @pt3<|z0z @ont9<|z0z @ty9_z<|z0z @pt9<|z0z @ont21<|z0z @ty21_d<|z0z @ont22<|z0z @ty22_d<|z0z @pt22<|z0z @el22<|z0z @ln22<|z0z @ap22<|z0z @ix22<|z0z @ont23<|z0z @ty23_d<|z0z @pt23<|z0z @el23<|z0z @ln23<|z0z @ap23<|z0z @ix23<|z0z @ont25<|z0z @ty25_z<|z0z @ty25_0<|z0z @bd25<|z0z @pl25_0<|z0z @fq25_0<|z0z @pl25_1<|z0z @fq25_1<|z0z @pt25<|z0z @ont26<|z0z @ty26_z<|z0z @ty26_b<|z0z @ty26_d<|z0z @ft26<|z0z @ty26_0<|z0z @pt26<|z0z @el26<|z0z @ln26<|z0z @ap26<|z0z @ix26<|z0z @ont36<|z0z @ty36_z<|z0z @ty36_0<|z0z @bd36<|z0z @pl36_0<|z0z @fq36_0<|z0z @pl36_1<|z0z @fq36_1<|z0z @pl36_2<|z0z @fq36_2<|z0z @ont39<|z0z @ty39_z<|z0z @ty39_d<|z0z @pt39<|z0z @el39<|z0z @ln39<|z0z @ap39<|z0z @ix39<|z0z @ont41<|z0z @ty41_z<|z0z @ty41_b<|z0z @ft41<|z0z @ty41_0<|z0z @bd41<|z0z @pl41_0<|z0z @fq41_0<|z0z @pl41_1<|z0z @fq41_1<|z0z @pl41_2<|z0z @fq41_2<|z0z @pl41_3<|z0z @fq41_3<|z0z @pl41_4<|z0z @fq41_4<|z0z @pt41<|z0z @ont42<|z0z @ty42_d<|z0z @pt42<|z0z @el42<|z0z @ln42<|z0z @ap42<|z0z @ix42<|z0z @ont44<|z0z @ty44_z<|z0z @ty44_0<|z0z @bd44<|z0z @pl44_0<|z0z @fq44_0<|z0z @fq44_1<|z0z @fq44_2<|z0z @fq44_3<|z0z @pt44<|z0z @ont46<|z0z @ty46_z<|z0z @ty46_b<|z0z @ft46<|z0z @ty46_0<|z0z @bd46<|z0z @pl46_0<|z0z @fq46_0<|z0z @pl46_1<|z0z @fq46_1<|z0z @pt46<|z0z @ont49<|z0z @ty49_z<|z0z @ty49_b<|z0z @ft49<|z0z @ty49_0<|z0z @bd49<|z0z @pl49_0<|z0z @fq49_0<|z0z @pl49_1<|z0z @fq49_1<|z0z @fq49_2<|z0z @pl49_3<|z0z @fq49_3<|z0z @pl49_4<|z0z @fq49_4<|z0z @fq49_5<|z0z @pl49_6<|z0z @fq49_6<|z0z @fq49_7<|z0z @pt49<|z0z @ont54<|z0z @ty54_z<|z0z @ty54_b<|z0z @ft54<|z0z @ty54_0<|z0z @fq54_1<|z0z @fq54_2<|z0z @pt54<|z0z @ont57<|z0z @ty57_z<|z0z @ty57_0<|z0z @bd57<|z0z @pl57_0<|z0z @fq57_0<|z0z @pl57_1<|z0z @fq57_1<|z0z @pt57<|z0z @ont63<|z0z @ty63_z<|z0z @ty63_0<|z0z @pt63<|z0z @ont64<|z0z @ty64_z<|z0z @ty64_d<|z0z @pt64<|z0z @el64<|z0z @ap64<|z0z @ix64<|z0z @ont66<|z0z @ty66_z<|z0z @ty66_0<|z0z @bd66<|z0z @pl66_0<|z0z @fq66_0<|z0z @pl66_1<|z0z @fq66_1<|z0z @pl66_2<|z0z @fq66_2<|z0z @fq66_3<|z0z @fq66_4<|z0z @fq66_5<|z0z @ont68<|z0z @ty68_z<|z0z @ty68_0<|z0z @bd68<|z0z @pl68_0<|z0z @fq68_0<|z0z @pl68_1<|z0z @fq68_1<|z0z @ont81<|z0z @ty81_z<|z0z @ty81_0<|z0z @ont82<|z0z @ont103<|z0z @ty103_d<|z0z @ont113<|z0z @ty113_d<|z0z @xo_eq<|z0z @xm_eq<|z0z @xg_eq<|z0z @tm_eq<|z0z @ki_eq<|z0z @cl_eq<|z0z @xa_eq<|z0z @xl_eq<|z0z @xf_eq<|z0z @xi_eq<|z0z @xn_eq<|z0z @xs_eq<|z0z @xb_eq<|z0z @gl_eq<|z0z @gf_eq<|z0z @R_eq<|z0z @qs_eq<|z0z @kf_eq<|@kt_eq
def XP:=And.intro XQ (And.intro @sp_eq Nat.zero_add)
end Go.Proofs.AmEnv
