/- The tables of this program's types and functions, facts on them, and the rules. Conditions: none. -/
import Derived.Test.YthoghikipmifeaaCode
set_option linter.unusedVariables false
set_option linter.unusedSimpArgs false
set_option linter.unusedSectionVars false
set_option linter.defProp false
set_option maxRecDepth 100000
set_option maxHeartbeats 4000000
namespace Go.Proofs.AmEnv
abbrev C3{α:Type}(t m:Nat)(a b:α):α:=bif Nat.blt t m then a else b
abbrev C2{α:Type}(t m:Nat)(a:α):Option α:=bif Nat.beq t m then some a else none
open Go.AM
noncomputable def ty2:TI:=⟨.int .i64,1,8,.int .i64 0⟩
noncomputable def ty3:TI:=⟨.int .i64,1,8,.int .i64 0⟩
noncomputable def HF:TI:=⟨.bool,1,1,.bool false⟩
noncomputable def HG:TI:=⟨.string,1,16,.str []⟩
noncomputable def XY:TI:=⟨.iface,1,16,.niliface⟩
noncomputable def DB:TI:=⟨.int .i32,1,4,.int .i32 0⟩
noncomputable def jA:TI:=⟨.slice 46,1,24,.nilsl⟩
noncomputable def jB:TI:=⟨.slice 49,1,24,.nilsl⟩
noncomputable def Sd:TI:=⟨.struct [(22,0),(23,1)] false,2,48,.agg [.nilsl,.nilsl]⟩
noncomputable def Fo:TI:=⟨.slice 3,1,24,.nilsl⟩
noncomputable def XZ:TI:=⟨.int .i64,1,8,.int .i64 0⟩
noncomputable def YA:TI:=⟨.func,1,8,.nilfn⟩
noncomputable def YB:TI:=⟨.func,1,8,.nilfn⟩
noncomputable def aK:TI:=⟨.struct [(26,0),(3,1),(3,2)] false,3,40,.agg [.nilsl,(.int .i64 0),(.int .i64 0)]⟩
noncomputable def YC:TI:=⟨.func,1,8,.nilfn⟩
noncomputable def YD:TI:=⟨.func,1,8,.nilfn⟩
noncomputable def YE:TI:=⟨.func,1,8,.nilfn⟩
noncomputable def YF:TI:=⟨.func,1,8,.nilfn⟩
noncomputable def YG:TI:=⟨.struct [(9,0),(3,1),(3,2),(3,3)] true,4,40,.agg [(.str []),(.int .i64 0),(.int .i64 0),(.int .i64 0)]⟩
noncomputable def Ck:TI:=⟨.struct [(9,0),(3,1),(3,2),(3,3)] true,4,40,.agg [(.str []),(.int .i64 0),(.int .i64 0),(.int .i64 0)]⟩
noncomputable def eH:TI:=⟨.slice 54,1,24,.nilsl⟩
noncomputable def o9:TI:=⟨.struct [(9,0),(3,1),(3,2),(26,3),(47,4)] false,5,80,.agg [(.str []),(.int .i64 0),(.int .i64 0),.nilsl,.nilsl]⟩
noncomputable def eI:TI:=⟨.slice 56,1,24,.nilsl⟩
noncomputable def Ds:TI:=⟨.struct [(3,0),(3,1),(3,2),(3,3)] true,4,32,.agg [(.int .i64 0),(.int .i64 0),(.int .i64 0),(.int .i64 0)]⟩
noncomputable def Ak:TI:=⟨.struct [(50,0),(52,1)] false,5,56,.agg [.nilsl,(.int .i64 0),(.int .i64 0),(.int .i64 0),(.int .i64 0)]⟩
noncomputable def v7:TI:=⟨.struct [(3,0),(3,1),(3,2),(3,3),(3,4),(3,5),(9,6),(26,7)] false,8,88,.agg [(.int .i64 0),(.int .i64 0),(.int .i64 0),(.int .i64 0),(.int .i64 0),(.int .i64 0),(.str []),.nilsl]⟩
noncomputable def YH:TI:=⟨.func,1,8,.nilfn⟩
noncomputable def aL:TI:=⟨.struct [(25,0),(49,2)] false,7,128,.agg [.nilsl,.nilsl,(.str []),(.int .i64 0),(.int .i64 0),.nilsl,.nilsl]⟩
noncomputable def YI:TI:=⟨.func,1,8,.nilfn⟩
noncomputable def YJ:TI:=⟨.func,1,8,.nilfn⟩
noncomputable def YK:TI:=⟨.func,1,8,.nilfn⟩
noncomputable def tJ:TI:=⟨.ptr 66,1,8,.nilptr⟩
noncomputable def pA:TI:=⟨.slice 26,1,24,.nilsl⟩
noncomputable def Od:TI:=⟨.struct [(25,0),(26,2),(3,3),(64,4),(35,5),(3,8)] false,9,152,.agg [.nilsl,.nilsl,.nilsl,(.int .i64 0),.nilsl,.nilsl,(.int .i64 0),(.int .i64 0),(.int .i64 0)]⟩
noncomputable def eJ:TI:=⟨.struct [(3,0),(3,1)] true,2,16,.agg [(.int .i64 0),(.int .i64 0)]⟩
noncomputable def YL:TI:=⟨.func,1,8,.nilfn⟩
noncomputable def xT:TI:=⟨.slice 52,1,24,.nilsl⟩
noncomputable def YM:TI:=⟨.func,1,8,.nilfn⟩
noncomputable def YN:TI:=⟨.ptr 3,1,8,.nilptr⟩
noncomputable def HH:TI:=⟨.func,1,8,.nilfn⟩
noncomputable def HI:TI:=⟨.func,1,8,.nilfn⟩
noncomputable def HJ:TI:=⟨.func,1,8,.nilfn⟩
noncomputable def tK:TI:=⟨.int .i8,1,1,.int .i8 0⟩
noncomputable def HK:TI:=⟨.func,1,8,.nilfn⟩
noncomputable def HL:TI:=⟨.func,1,8,.nilfn⟩
noncomputable def HM:TI:=⟨.func,1,8,.nilfn⟩
noncomputable def tL:TI:=⟨.int .u64,1,8,.int .u64 0⟩
noncomputable def ti(t:Nat):Option TI:=
 C3 t 52 (C3 t 32 (C3 t 21 (C3 t 4 (C3 t 3 (C2 t 2 ty2) (C2 t 3 ty3)) (C3 t 9 (C2 t 4 HF) (C3 t 20 (C2 t 9 HG) (C2 t 20 XY)))) (C3 t 25 (C3 t 22 (C2 t 21 DB) (C3 t 23 (C2 t 22 jA) (C2 t 23 jB))) (C3 t 26 (C2 t 25 Sd) (C3 t 30 (C2 t 26 Fo) (C2 t 30 XZ))))) (C3 t 43 (C3 t 37 (C3 t 33 (C2 t 32 YA) (C3 t 35 (C2 t 33 YB) (C2 t 35 aK))) (C3 t 38 (C2 t 37 YC) (C3 t 42 (C2 t 38 YD) (C2 t 42 YE)))) (C3 t 47 (C3 t 45 (C2 t 43 YF) (C3 t 46 (C2 t 45 YG) (C2 t 46 Ck))) (C3 t 49 (C2 t 47 eH) (C3 t 50 (C2 t 49 o9) (C2 t 50 eI)))))) (C3 t 80 (C3 t 61 (C3 t 57 (C3 t 54 (C2 t 52 Ds) (C3 t 56 (C2 t 54 Ak) (C2 t 56 v7))) (C3 t 59 (C2 t 57 YH) (C3 t 60 (C2 t 59 aL) (C2 t 60 YI)))) (C3 t 64 (C3 t 62 (C2 t 61 YJ) (C3 t 63 (C2 t 62 YK) (C2 t 63 tJ))) (C3 t 66 (C2 t 64 pA) (C3 t 68 (C2 t 66 Od) (C2 t 68 eJ))))) (C3 t 110 (C3 t 97 (C3 t 88 (C2 t 80 YL) (C3 t 94 (C2 t 88 xT) (C2 t 94 YM))) (C3 t 105 (C2 t 97 YN) (C3 t 109 (C2 t 105 HH) (C2 t 109 HI)))) (C3 t 117 (C3 t 113 (C2 t 110 HJ) (C3 t 116 (C2 t 113 tK) (C2 t 116 HK))) (C3 t 124 (C2 t 117 HL) (C3 t 126 (C2 t 124 HM) (C2 t 126 tL))))))
noncomputable def fn(f:Nat):Option FI:=
 C3 f 49 (C3 f 28 (C3 f 17 (C3 f 11 (C3 f 7 (C3 f 6 (C2 f 5 fi5) (C2 f 6 fi6)) (C3 f 10 (C2 f 7 fi7) (C2 f 10 RN))) (C3 f 13 (C3 f 12 (C2 f 11 RP) (C2 f 12 RR)) (C3 f 15 (C2 f 13 RT) (C3 f 16 (C2 f 15 RV) (C2 f 16 RX))))) (C3 f 23 (C3 f 19 (C3 f 18 (C2 f 17 RZ) (C2 f 18 SB)) (C3 f 20 (C2 f 19 SD) (C3 f 21 (C2 f 20 SF) (C2 f 21 SH)))) (C3 f 25 (C3 f 24 (C2 f 23 SK) (C2 f 24 SM)) (C3 f 26 (C2 f 25 SO) (C3 f 27 (C2 f 26 SQ) (C2 f 27 SS)))))) (C3 f 39 (C3 f 33 (C3 f 30 (C3 f 29 (C2 f 28 SU) (C2 f 29 SW)) (C3 f 31 (C2 f 30 SY) (C3 f 32 (C2 f 31 TA) (C2 f 32 TE)))) (C3 f 35 (C3 f 34 (C2 f 33 TG) (C2 f 34 TJ)) (C3 f 36 (C2 f 35 TL) (C3 f 37 (C2 f 36 TN) (C2 f 37 TP))))) (C3 f 44 (C3 f 41 (C3 f 40 (C2 f 39 TR) (C2 f 40 TT)) (C3 f 42 (C2 f 41 TV) (C3 f 43 (C2 f 42 TX) (C2 f 43 TZ)))) (C3 f 46 (C3 f 45 (C2 f 44 UB) (C2 f 45 UD)) (C3 f 47 (C2 f 46 UF) (C3 f 48 (C2 f 47 UH) (C2 f 48 UJ))))))) (C3 f 70 (C3 f 59 (C3 f 54 (C3 f 51 (C3 f 50 (C2 f 49 UL) (C2 f 50 UN)) (C3 f 52 (C2 f 51 UP) (C3 f 53 (C2 f 52 UR) (C2 f 53 UT)))) (C3 f 56 (C3 f 55 (C2 f 54 UV) (C2 f 55 UX)) (C3 f 57 (C2 f 56 UZ) (C3 f 58 (C2 f 57 VB) (C2 f 58 VD))))) (C3 f 65 (C3 f 61 (C3 f 60 (C2 f 59 VF) (C2 f 60 VH)) (C3 f 62 (C2 f 61 VK) (C3 f 64 (C2 f 62 VP) (C2 f 64 VT)))) (C3 f 67 (C3 f 66 (C2 f 65 VW) (C2 f 66 VY)) (C3 f 68 (C2 f 67 WA) (C3 f 69 (C2 f 68 WC) (C2 f 69 WE)))))) (C3 f 81 (C3 f 75 (C3 f 72 (C3 f 71 (C2 f 70 WH) (C2 f 71 WJ)) (C3 f 73 (C2 f 72 WL) (C3 f 74 (C2 f 73 WN) (C2 f 74 WP)))) (C3 f 77 (C3 f 76 (C2 f 75 WR) (C2 f 76 WT)) (C3 f 79 (C2 f 77 WV) (C3 f 80 (C2 f 79 WX) (C2 f 80 WZ))))) (C3 f 86 (C3 f 83 (C3 f 82 (C2 f 81 XB) (C2 f 82 XE)) (C3 f 84 (C2 f 83 XG) (C3 f 85 (C2 f 84 XI) (C2 f 85 XK)))) (C3 f 89 (C3 f 88 (C2 f 86 XM) (C2 f 88 XO)) (C3 f 90 (C2 f 89 XS) (C3 f 91 (C2 f 90 XU) (C2 f 91 XW)))))))
noncomputable def A0:Env:=⟨ti,fn,fun _=>none,fun f=>Nat.beq f 63,some 0,fun _=>false,fun _=>none,fun _ _=>false⟩
noncomputable section
def A1(f:Nat):Option PFn:=C3 f 49 (C3 f 28 (C3 f 17 (C3 f 11 (C3 f 7 (C3 f 6 (C2 f 5 pf5) (C2 f 6 pf6)) (C3 f 10 (C2 f 7 pf7) (C2 f 10 RO))) (C3 f 13 (C3 f 12 (C2 f 11 RQ) (C2 f 12 RS)) (C3 f 15 (C2 f 13 RU) (C3 f 16 (C2 f 15 RW) (C2 f 16 RY))))) (C3 f 23 (C3 f 19 (C3 f 18 (C2 f 17 SA) (C2 f 18 SC)) (C3 f 20 (C2 f 19 SE) (C3 f 21 (C2 f 20 SG) (C2 f 21 SI)))) (C3 f 25 (C3 f 24 (C2 f 23 SL) (C2 f 24 SN)) (C3 f 26 (C2 f 25 SP) (C3 f 27 (C2 f 26 SR) (C2 f 27 ST)))))) (C3 f 39 (C3 f 33 (C3 f 30 (C3 f 29 (C2 f 28 SV) (C2 f 29 SX)) (C3 f 31 (C2 f 30 SZ) (C3 f 32 (C2 f 31 TB) (C2 f 32 TF)))) (C3 f 35 (C3 f 34 (C2 f 33 TH) (C2 f 34 TK)) (C3 f 36 (C2 f 35 TM) (C3 f 37 (C2 f 36 TO) (C2 f 37 TQ))))) (C3 f 44 (C3 f 41 (C3 f 40 (C2 f 39 TS) (C2 f 40 TU)) (C3 f 42 (C2 f 41 TW) (C3 f 43 (C2 f 42 TY) (C2 f 43 UA)))) (C3 f 46 (C3 f 45 (C2 f 44 UC) (C2 f 45 UE)) (C3 f 47 (C2 f 46 UG) (C3 f 48 (C2 f 47 UI) (C2 f 48 UK))))))) (C3 f 70 (C3 f 59 (C3 f 54 (C3 f 51 (C3 f 50 (C2 f 49 UM) (C2 f 50 UO)) (C3 f 52 (C2 f 51 UQ) (C3 f 53 (C2 f 52 US) (C2 f 53 UU)))) (C3 f 56 (C3 f 55 (C2 f 54 UW) (C2 f 55 UY)) (C3 f 57 (C2 f 56 VA) (C3 f 58 (C2 f 57 VC) (C2 f 58 VE))))) (C3 f 65 (C3 f 61 (C3 f 60 (C2 f 59 VG) (C2 f 60 VI)) (C3 f 62 (C2 f 61 VM) (C3 f 64 (C2 f 62 VS) (C2 f 64 VU)))) (C3 f 67 (C3 f 66 (C2 f 65 VX) (C2 f 66 VZ)) (C3 f 68 (C2 f 67 WB) (C3 f 69 (C2 f 68 WD) (C2 f 69 WG)))))) (C3 f 81 (C3 f 75 (C3 f 72 (C3 f 71 (C2 f 70 WI) (C2 f 71 WK)) (C3 f 73 (C2 f 72 WM) (C3 f 74 (C2 f 73 WO) (C2 f 74 WQ)))) (C3 f 77 (C3 f 76 (C2 f 75 WS) (C2 f 76 WU)) (C3 f 79 (C2 f 77 WW) (C3 f 80 (C2 f 79 WY) (C2 f 80 XA))))) (C3 f 86 (C3 f 83 (C3 f 82 (C2 f 81 XD) (C2 f 82 XF)) (C3 f 84 (C2 f 83 XH) (C3 f 85 (C2 f 84 XJ) (C2 f 85 XL)))) (C3 f 89 (C3 f 88 (C2 f 86 XN) (C2 f 88 XR)) (C3 f 90 (C2 f 89 XT) (C3 f 91 (C2 f 90 XV) (C2 f 91 XX)))))))
end
end Go.Proofs.AmEnv
set_option maxRecDepth 100000
set_option linter.unusedVariables false
namespace Go.Proofs.AmEnv
open Go Go.AM
noncomputable section
theorem ont2{f:TI->OpS}:W3 A0 2 f=f ty2:=rfl
theorem ont3{f:TI->OpS}:W3 A0 3 f=f ty3:=rfl
theorem ti3:A0.ti 3=some ty3:=rfl
theorem ty3_z:ty3.size=1:=rfl
theorem ty3_b:ty3.bytes=8:=rfl
theorem ty3_d:ty3.desc=.int .i64:=rfl
theorem ft3:flatT ty3=true:=rfl
theorem ty3_0:ty3.zero=.int .i64 0:=rfl
theorem pt3(cs:List AV)(o:Nat):partOf ty3 cs o=cs[o]?:=M2 rfl cs o
theorem ont4{f:TI->OpS}:W3 A0 4 f=f HF:=rfl
theorem ty4_z:HF.size=1:=rfl
theorem ty4_0:HF.zero=.bool false:=rfl
theorem pt4(cs:List AV)(o:Nat):partOf HF cs o=cs[o]?:=M2 rfl cs o
theorem ont9{f:TI->OpS}:W3 A0 9 f=f HG:=rfl
theorem ti9:A0.ti 9=some HG:=rfl
theorem pt9(cs:List AV)(o:Nat):partOf HG cs o=cs[o]?:=M2 rfl cs o
theorem ont21{f:TI->OpS}:W3 A0 21 f=f DB:=rfl
theorem ty21_d:DB.desc=.int .i32:=rfl
theorem ont22{f:TI->OpS}:W3 A0 22 f=f jA:=rfl
theorem YO:A0.ti 22=some jA:=rfl
theorem ty22_d:jA.desc=.slice 46:=rfl
theorem pt22(cs:List AV)(o:Nat):partOf jA cs o=cs[o]?:=M2 rfl cs o
theorem el22:elemOfT A0 (.slice 46)=some Ck:=rfl
theorem ln22(l:List TypeId)(x:AV)(r:List AV)(K:PK):F0 A0 .len (22::l) (x::r) K=AB x K:=rfl
theorem ap22(l:List TypeId)(s x:AV)(r:List AV)(K:PK):F0 A0 .append (22::22::l) (s::x::r) K=X4 Ck s x K:=rfl
theorem ix22(x:AV)(i:AV):Gl A0 jA x i=Kq Ck x i:=rfl
theorem ont23{f:TI->OpS}:W3 A0 23 f=f jB:=rfl
theorem YP:A0.ti 23=some jB:=rfl
theorem ty23_d:jB.desc=.slice 49:=rfl
theorem pt23(cs:List AV)(o:Nat):partOf jB cs o=cs[o]?:=M2 rfl cs o
theorem el23:elemOfT A0 (.slice 49)=some o9:=rfl
theorem ln23(l:List TypeId)(x:AV)(r:List AV)(K:PK):F0 A0 .len (23::l) (x::r) K=AB x K:=rfl
theorem ap23(l:List TypeId)(s x:AV)(r:List AV)(K:PK):F0 A0 .append (23::23::l) (s::x::r) K=X4 o9 s x K:=rfl
theorem ix23(x:AV)(i:AV):Gl A0 jB x i=Kq o9 x i:=rfl
theorem ont25{f:TI->OpS}:W3 A0 25 f=f Sd:=rfl
theorem YQ:A0.ti 25=some Sd:=rfl
theorem ty25_z:Sd.size=2:=rfl
theorem ty25_0:Sd.zero=.agg [.nilsl,.nilsl]:=rfl
def DC(i:Nat):Option (Nat×Nat):=A5 (Kz [(22,0),(23,1)] i) fun f=>onTI A0 f.1 none fun g=>some (f.2,g.size)
theorem bd25(ps:List (Nat×AV)):O8 A0 Sd ps=AC (O0 DC ps Sd.zero.cells):=rfl
theorem pl25_0:DC 0=some (0,1):=rfl
theorem fq25_0(x:AV):F9 A0 Sd 0 x=B4 x 0:=rfl
theorem pl25_1:DC 1=some (1,1):=rfl
theorem fq25_1(x:AV):F9 A0 Sd 1 x=B4 x 1:=rfl
theorem pt25(cs:List AV)(o:Nat):partOf Sd cs o=if o+2<=cs.length then some (.agg ((cs.drop o).take 2))else none:=V6 rfl cs o
theorem ont26{f:TI->OpS}:W3 A0 26 f=f Fo:=rfl
theorem YR:A0.ti 26=some Fo:=rfl
theorem ty26_z:Fo.size=1:=rfl
theorem ty26_b:Fo.bytes=24:=rfl
theorem ty26_d:Fo.desc=.slice 3:=rfl
theorem ft26:flatT Fo=false:=rfl
theorem ty26_0:Fo.zero=.nilsl:=rfl
theorem pt26(cs:List AV)(o:Nat):partOf Fo cs o=cs[o]?:=M2 rfl cs o
theorem el26:elemOfT A0 (.slice 3)=some ty3:=rfl
theorem ln26(l:List TypeId)(x:AV)(r:List AV)(K:PK):F0 A0 .len (26::l) (x::r) K=AB x K:=rfl
theorem ap26(l:List TypeId)(s x:AV)(r:List AV)(K:PK):F0 A0 .append (26::26::l) (s::x::r) K=X4 ty3 s x K:=rfl
theorem ix26(x:AV)(i:AV):Gl A0 Fo x i=Kq ty3 x i:=rfl
theorem ont35{f:TI->OpS}:W3 A0 35 f=f aK:=rfl
theorem ty35_z:aK.size=3:=rfl
theorem ty35_0:aK.zero=.agg [.nilsl,(.int .i64 0),(.int .i64 0)]:=rfl
def xU(i:Nat):Option (Nat×Nat):=A5 (Kz [(26,0),(3,1),(3,2)] i) fun f=>onTI A0 f.1 none fun g=>some (f.2,g.size)
theorem bd35(ps:List (Nat×AV)):O8 A0 aK ps=AC (O0 xU ps aK.zero.cells):=rfl
theorem pl35_0:xU 0=some (0,1):=rfl
theorem fq35_0(x:AV):F9 A0 aK 0 x=B4 x 0:=rfl
theorem pl35_1:xU 1=some (1,1):=rfl
theorem fq35_1(x:AV):F9 A0 aK 1 x=B4 x 1:=rfl
theorem pl35_2:xU 2=some (2,1):=rfl
theorem fq35_2(x:AV):F9 A0 aK 2 x=B4 x 2:=rfl
theorem ont46{f:TI->OpS}:W3 A0 46 f=f Ck:=rfl
theorem DD:A0.ti 46=some Ck:=rfl
theorem ty46_z:Ck.size=4:=rfl
theorem ty46_b:Ck.bytes=40:=rfl
theorem ft46:flatT Ck=true:=rfl
theorem ty46_0:Ck.zero=.agg [(.str []),(.int .i64 0),(.int .i64 0),(.int .i64 0)]:=rfl
theorem fq46_1(x:AV):F9 A0 Ck 1 x=B4 x 1:=rfl
theorem fq46_2(x:AV):F9 A0 Ck 2 x=B4 x 2:=rfl
theorem pt46(cs:List AV)(o:Nat):partOf Ck cs o=if o+4<=cs.length then some (.agg ((cs.drop o).take 4))else none:=V6 rfl cs o
theorem ont47{f:TI->OpS}:W3 A0 47 f=f eH:=rfl
theorem YS:A0.ti 47=some eH:=rfl
theorem ty47_z:eH.size=1:=rfl
theorem ty47_d:eH.desc=.slice 54:=rfl
theorem pt47(cs:List AV)(o:Nat):partOf eH cs o=cs[o]?:=M2 rfl cs o
theorem el47:elemOfT A0 (.slice 54)=some Ak:=rfl
theorem ln47(l:List TypeId)(x:AV)(r:List AV)(K:PK):F0 A0 .len (47::l) (x::r) K=AB x K:=rfl
theorem ap47(l:List TypeId)(s x:AV)(r:List AV)(K:PK):F0 A0 .append (47::47::l) (s::x::r) K=X4 Ak s x K:=rfl
theorem ix47(x:AV)(i:AV):Gl A0 eH x i=Kq Ak x i:=rfl
theorem ont49{f:TI->OpS}:W3 A0 49 f=f o9:=rfl
theorem DF:A0.ti 49=some o9:=rfl
theorem ty49_z:o9.size=5:=rfl
theorem ty49_b:o9.bytes=80:=rfl
theorem ft49:flatT o9=false:=rfl
theorem ty49_0:o9.zero=.agg [(.str []),(.int .i64 0),(.int .i64 0),.nilsl,.nilsl]:=rfl
def xV(i:Nat):Option (Nat×Nat):=A5 (Kz [(9,0),(3,1),(3,2),(26,3),(47,4)] i) fun f=>onTI A0 f.1 none fun g=>some (f.2,g.size)
theorem bd49(ps:List (Nat×AV)):O8 A0 o9 ps=AC (O0 xV ps o9.zero.cells):=rfl
theorem pl49_0:xV 0=some (0,1):=rfl
theorem fq49_0(x:AV):F9 A0 o9 0 x=B4 x 0:=rfl
theorem pl49_1:xV 1=some (1,1):=rfl
theorem fq49_1(x:AV):F9 A0 o9 1 x=B4 x 1:=rfl
theorem fq49_2(x:AV):F9 A0 o9 2 x=B4 x 2:=rfl
theorem pl49_3:xV 3=some (3,1):=rfl
theorem fq49_3(x:AV):F9 A0 o9 3 x=B4 x 3:=rfl
theorem fq49_4(x:AV):F9 A0 o9 4 x=B4 x 4:=rfl
theorem pt49(cs:List AV)(o:Nat):partOf o9 cs o=if o+5<=cs.length then some (.agg ((cs.drop o).take 5))else none:=V6 rfl cs o
theorem ont50{f:TI->OpS}:W3 A0 50 f=f eI:=rfl
theorem YT:A0.ti 50=some eI:=rfl
theorem ty50_z:eI.size=1:=rfl
theorem ty50_d:eI.desc=.slice 56:=rfl
theorem pt50(cs:List AV)(o:Nat):partOf eI cs o=cs[o]?:=M2 rfl cs o
theorem el50:elemOfT A0 (.slice 56)=some v7:=rfl
theorem ln50(l:List TypeId)(x:AV)(r:List AV)(K:PK):F0 A0 .len (50::l) (x::r) K=AB x K:=rfl
theorem ap50(l:List TypeId)(s x:AV)(r:List AV)(K:PK):F0 A0 .append (50::50::l) (s::x::r) K=X4 v7 s x K:=rfl
theorem ix50(x:AV)(i:AV):Gl A0 eI x i=Kq v7 x i:=rfl
theorem ont52{f:TI->OpS}:W3 A0 52 f=f Ds:=rfl
theorem YU:A0.ti 52=some Ds:=rfl
theorem ty52_z:Ds.size=4:=rfl
theorem ty52_0:Ds.zero=.agg [(.int .i64 0),(.int .i64 0),(.int .i64 0),(.int .i64 0)]:=rfl
def tM(i:Nat):Option (Nat×Nat):=A5 (Kz [(3,0),(3,1),(3,2),(3,3)] i) fun f=>onTI A0 f.1 none fun g=>some (f.2,g.size)
theorem bd52(ps:List (Nat×AV)):O8 A0 Ds ps=AC (O0 tM ps Ds.zero.cells):=rfl
theorem pl52_0:tM 0=some (0,1):=rfl
theorem fq52_0(x:AV):F9 A0 Ds 0 x=B4 x 0:=rfl
theorem pl52_1:tM 1=some (1,1):=rfl
theorem fq52_1(x:AV):F9 A0 Ds 1 x=B4 x 1:=rfl
theorem pl52_2:tM 2=some (2,1):=rfl
theorem fq52_2(x:AV):F9 A0 Ds 2 x=B4 x 2:=rfl
theorem pl52_3:tM 3=some (3,1):=rfl
theorem fq52_3(x:AV):F9 A0 Ds 3 x=B4 x 3:=rfl
theorem pt52(cs:List AV)(o:Nat):partOf Ds cs o=if o+4<=cs.length then some (.agg ((cs.drop o).take 4))else none:=V6 rfl cs o
theorem ont54{f:TI->OpS}:W3 A0 54 f=f Ak:=rfl
theorem DG:A0.ti 54=some Ak:=rfl
theorem ty54_z:Ak.size=5:=rfl
theorem ty54_b:Ak.bytes=56:=rfl
theorem ft54:flatT Ak=false:=rfl
theorem ty54_0:Ak.zero=.agg [.nilsl,(.int .i64 0),(.int .i64 0),(.int .i64 0),(.int .i64 0)]:=rfl
def DH(i:Nat):Option (Nat×Nat):=A5 (Kz [(50,0),(52,1)] i) fun f=>onTI A0 f.1 none fun g=>some (f.2,g.size)
theorem bd54(ps:List (Nat×AV)):O8 A0 Ak ps=AC (O0 DH ps Ak.zero.cells):=rfl
theorem pl54_0:DH 0=some (0,1):=rfl
theorem fq54_0(x:AV):F9 A0 Ak 0 x=B4 x 0:=rfl
theorem pl54_1:DH 1=some (1,4):=rfl
theorem fq54_1(x:AV):F9 A0 Ak 1 x=B4 x 1:=rfl
theorem pt54(cs:List AV)(o:Nat):partOf Ak cs o=if o+5<=cs.length then some (.agg ((cs.drop o).take 5))else none:=V6 rfl cs o
theorem ont56{f:TI->OpS}:W3 A0 56 f=f v7:=rfl
theorem DI:A0.ti 56=some v7:=rfl
theorem ty56_z:v7.size=8:=rfl
theorem ty56_b:v7.bytes=88:=rfl
theorem ft56:flatT v7=false:=rfl
theorem ty56_0:v7.zero=.agg [(.int .i64 0),(.int .i64 0),(.int .i64 0),(.int .i64 0),(.int .i64 0),(.int .i64 0),(.str []),.nilsl]:=rfl
theorem fq56_0(x:AV):F9 A0 v7 0 x=B4 x 0:=rfl
theorem fq56_1(x:AV):F9 A0 v7 1 x=B4 x 1:=rfl
theorem fq56_2(x:AV):F9 A0 v7 2 x=B4 x 2:=rfl
theorem fq56_3(x:AV):F9 A0 v7 3 x=B4 x 3:=rfl
theorem fq56_4(x:AV):F9 A0 v7 4 x=B4 x 4:=rfl
theorem fq56_5(x:AV):F9 A0 v7 5 x=B4 x 5:=rfl
theorem fq56_6(x:AV):F9 A0 v7 6 x=B4 x 6:=rfl
theorem fq56_7(x:AV):F9 A0 v7 7 x=B4 x 7:=rfl
theorem pt56(cs:List AV)(o:Nat):partOf v7 cs o=if o+8<=cs.length then some (.agg ((cs.drop o).take 8))else none:=V6 rfl cs o
theorem ont59{f:TI->OpS}:W3 A0 59 f=f aL:=rfl
theorem ty59_z:aL.size=7:=rfl
theorem ty59_0:aL.zero=.agg [.nilsl,.nilsl,(.str []),(.int .i64 0),(.int .i64 0),.nilsl,.nilsl]:=rfl
def DJ(i:Nat):Option (Nat×Nat):=A5 (Kz [(25,0),(49,2)] i) fun f=>onTI A0 f.1 none fun g=>some (f.2,g.size)
theorem bd59(ps:List (Nat×AV)):O8 A0 aL ps=AC (O0 DJ ps aL.zero.cells):=rfl
theorem pl59_0:DJ 0=some (0,2):=rfl
theorem fq59_0(x:AV):F9 A0 aL 0 x=B4 x 0:=rfl
theorem pl59_1:DJ 1=some (2,5):=rfl
theorem fq59_1(x:AV):F9 A0 aL 1 x=B4 x 2:=rfl
theorem pt59(cs:List AV)(o:Nat):partOf aL cs o=if o+7<=cs.length then some (.agg ((cs.drop o).take 7))else none:=V6 rfl cs o
theorem ont63{f:TI->OpS}:W3 A0 63 f=f tJ:=rfl
theorem ty63_z:tJ.size=1:=rfl
theorem ty63_0:tJ.zero=.nilptr:=rfl
theorem pt63(cs:List AV)(o:Nat):partOf tJ cs o=cs[o]?:=M2 rfl cs o
theorem ont64{f:TI->OpS}:W3 A0 64 f=f pA:=rfl
theorem ty64_z:pA.size=1:=rfl
theorem ty64_d:pA.desc=.slice 26:=rfl
theorem pt64(cs:List AV)(o:Nat):partOf pA cs o=cs[o]?:=M2 rfl cs o
theorem el64:elemOfT A0 (.slice 26)=some Fo:=rfl
theorem ap64(l:List TypeId)(s x:AV)(r:List AV)(K:PK):F0 A0 .append (64::64::l) (s::x::r) K=X4 Fo s x K:=rfl
theorem ix64(x:AV)(i:AV):Gl A0 pA x i=Kq Fo x i:=rfl
theorem ont66{f:TI->OpS}:W3 A0 66 f=f Od:=rfl
theorem ty66_z:Od.size=9:=rfl
theorem ty66_0:Od.zero=.agg [.nilsl,.nilsl,.nilsl,(.int .i64 0),.nilsl,.nilsl,(.int .i64 0),(.int .i64 0),(.int .i64 0)]:=rfl
def xW(i:Nat):Option (Nat×Nat):=A5 (Kz [(25,0),(26,2),(3,3),(64,4),(35,5),(3,8)] i) fun f=>onTI A0 f.1 none fun g=>some (f.2,g.size)
theorem bd66(ps:List (Nat×AV)):O8 A0 Od ps=AC (O0 xW ps Od.zero.cells):=rfl
theorem pl66_0:xW 0=some (0,2):=rfl
theorem fq66_0(x:AV):F9 A0 Od 0 x=B4 x 0:=rfl
theorem pl66_1:xW 1=some (2,1):=rfl
theorem fq66_1(x:AV):F9 A0 Od 1 x=B4 x 2:=rfl
theorem pl66_2:xW 2=some (3,1):=rfl
theorem fq66_2(x:AV):F9 A0 Od 2 x=B4 x 3:=rfl
theorem fq66_3(x:AV):F9 A0 Od 3 x=B4 x 4:=rfl
theorem fq66_4(x:AV):F9 A0 Od 4 x=B4 x 5:=rfl
theorem fq66_5(x:AV):F9 A0 Od 5 x=B4 x 8:=rfl
theorem ont68{f:TI->OpS}:W3 A0 68 f=f eJ:=rfl
theorem ty68_z:eJ.size=2:=rfl
theorem ty68_0:eJ.zero=.agg [(.int .i64 0),(.int .i64 0)]:=rfl
def DK(i:Nat):Option (Nat×Nat):=A5 (Kz [(3,0),(3,1)] i) fun f=>onTI A0 f.1 none fun g=>some (f.2,g.size)
theorem bd68(ps:List (Nat×AV)):O8 A0 eJ ps=AC (O0 DK ps eJ.zero.cells):=rfl
theorem pl68_0:DK 0=some (0,1):=rfl
theorem fq68_0(x:AV):F9 A0 eJ 0 x=B4 x 0:=rfl
theorem pl68_1:DK 1=some (1,1):=rfl
theorem fq68_1(x:AV):F9 A0 eJ 1 x=B4 x 1:=rfl
theorem ont88{f:TI->OpS}:W3 A0 88 f=f xT:=rfl
theorem ty88_d:xT.desc=.slice 52:=rfl
theorem el88:elemOfT A0 (.slice 52)=some Ds:=rfl
theorem ln88(l:List TypeId)(x:AV)(r:List AV)(K:PK):F0 A0 .len (88::l) (x::r) K=AB x K:=rfl
theorem ix88(x:AV)(i:AV):Gl A0 xT x i=Kq Ds x i:=rfl
theorem ont113{f:TI->OpS}:W3 A0 113 f=f tK:=rfl
theorem ty113_d:tK.desc=.int .i8:=rfl
theorem ont126{f:TI->OpS}:W3 A0 126 f=f tL:=rfl
theorem ty126_d:tL.desc=.int .u64:=rfl
end
theorem z0z{a b:Prop}(x:a)(y:b):a/\b:=⟨x,y⟩
def XQ:=z0z @e_seq<|z0z @seqP_normal<|z0z @seqP_exit<|z0z @seqP_ret<|z0z @seqP_pan<|z0z @e_skip<|z0z @e_exit<|z0z @e_ret<|z0z @e_reg<|z0z @e_regD<|z0z @e_pre<|z0z @e_cond<|z0z @condP_true<|z0z @condP_false<|z0z @e_block<|z0z @blkP_normal<|z0z @blkP_exit<|z0z @blkP_ret<|z0z @blkP_pan<|z0z @e_post<|z0z @postP_normal<|z0z @postP_exit<|z0z @postP_ret<|z0z @postP_pan<|z0z @callK_val<|z0z @callK_pan<|z0z @doP_val<|z0z @doP_call<|z0z @doP_pan<|z0z @e_nil<|z0z @e_op<|z0z @e_opS<|z0z @e_opY<|z0z @callD_val<|z0z @callD_pan<|z0z @callQ_pan<|z0z @v_nil<|z0z @v_late<|z0z @v_op<|z0z @doV_val<|z0z @doD_val<|z0z @doD_call<|z0z @callQ_val<|z0z @doQ_val<|z0z @doQ_call<|z0z @doQ_sep<|z0z @callQ_sep<|z0z @doS_val<|z0z @s_nil<|z0z @s_op<|z0z @s_ld<|z0z @cv_ptr<|z0z @e_nilD<|z0z @d_op<|z0z @d_opQ<|z0z @d_opS<|z0z @d_opY<|z0z @d_opYQ<|z0z @bodyP_ret<|z0z @bodyP_norm<|z0z @bodyP_pan<|z0z @lk_hit<|z0z @lk_cons<|z0z @st_some<|z0z @st_none<|z0z @ov_tmp<|z0z @ov_int<|z0z @ov_bool<|z0z @ov_str<|z0z @ov_nsl<|z0z @ov_npt<|z0z @ov_func<|z0z @ol_nil<|z0z @ol_cons<|z0z @oq_nil<|z0z @oq_cons<|z0z @oo_none<|z0z @oo_some<|z0z @en_nil<|z0z @en_cons<|z0z @one_1<|z0z @one_2<|z0z @one_0<|z0z @ofV_some<|z0z @ofO_some<|z0z @pr_move<|z0z @pr_assign<|z0z @pr_pick<|z0z @pick_true<|z0z @pick_false<|z0z @pr_alloc<|z0z @pr_box<|z0z @pr_build<|z0z @pr_buildSl<|z0z @pr_load<|z0z @pr_store<|z0z @pr_nil<|z0z @pr_bin<|z0z @pr_un<|z0z @pr_conv<|z0z @pr_fn<|z0z @pr_slice<|z0z @pr_fa<|z0z @pr_ia<|z0z @pr_ex<|z0z @pr_bui<|z0z @pr_call<|z0z @pr_callv<|z0z @callP_fn<|z0z @bp_add<|z0z @bp_sub<|z0z @bp_mul<|z0z @bp_eql<|z0z @bp_neq<|z0z @bp_lss<|z0z @bp_leq<|z0z @bp_gtr<|z0z @bp_geq<|z0z @bp_eqlS<|z0z @bp_neqS<|z0z @wt_true<|z0z @wt_false<|z0z @wt_skip<|z0z @ln_fsl<|z0z @ln_msl<|z0z @ix_fsl<|z0z @ix_msl<|z0z @exP_tup<|z0z @ld_f<|z0z @ld_p<|z0z @ldR_some<|z0z @ldE_some<|z0z @tb_nil<|z0z @tb_eq<|z0z @tbE_row<|z0z @te_eq<|z0z @teE_flat<|z0z @teE_row<|z0z @te_fsl<|z0z @ap_eq<|z0z @ap1_some<|z0z @ap2_some<|z0z @cl_int<|z0z @cl_bool<|z0z @cl_str<|z0z @cl_own<|z0z @cl_msl<|z0z @ag_int<|z0z @ag_agg<|z0z @cl_nsl<|z0z @ce_int<|z0z @ce_bool<|z0z @ce_str<|z0z @ce_agg<|z0z @ce_nsl<|z0z @ce_msl<|z0z @ce_own<|z0z @fl_nil<|z0z @fl_cons<|z0z @ro6<|z0z @rwE_row<|z0z @rwE_sub<|z0z @rwS_some<|z0z @rwC_some<|z0z @rwD_some<|z0z @ow_own<|z0z @rt_eq<|z0z @rtE_row<|z0z @rtE_sub<|z0z @ch_eq<|z0z @chE_row<|z0z @chE_sub<|z0z @kp_eq<|z0z @kg_nil<|z0z @kg_row<|z0z @kg_dead<|z0z @kg_sub<|z0z @mf_nil<|z0z @mf_cons<|z0z @mo_nil<|z0z @mo_cons<|z0z @mp_1<|z0z @mp_2<|z0z @mk1_eq<|z0z @mk2_eq<|z0z @sm_eq<|z0z @smE_row<|z0z @smE_row1<|z0z @smE_dead<|z0z @mi_eq<|z0z @rs_nil<|z0z @rs_cons<|z0z @rg_0<|z0z @rg_1<|z0z @rg_2<|z0z @rg_3<|z0z @rg_4<|z0z @rp_nil<|z0z @rp_cons<|z0z @po_cons<|z0z @rv_int<|z0z @rv_bool<|z0z @rv_str<|z0z @rv_agg<|z0z @rv_fsl<|z0z @rv_msl<|z0z @rv_ptr<|z0z @rv_nsl<|z0z @rv_fn<|z0z @rl_nil<|z0z @rl_cons<|z0z @rnM_some<|z0z @rnP_some<|z0z @et_eq<|z0z @enE_some<|z0z @rp_row<|z0z @rp_row1<|z0z @rp_dead<|z0z @rf_int<|z0z @rf_bool<|z0z @rf_str<|z0z @rf_agg<|z0z @rf_fsl<|z0z @rf_msl<|z0z @rf_ptr<|z0z @rf_nsl<|z0z @rf_fn<|z0z @rfl_nil<|z0z @rfl_cons<|z0z @bk_nil<|z0z @bk_cons<|z0z @bv_eq<|z0z @bs_nil<|z0z @bs_cons<|z0z @bc_msl<|z0z @bc_int<|z0z @bc_str<|z0z @lv_agg<|z0z @lv_msl<|z0z @lv_int<|z0z @lv_bool<|z0z @lv_str<|z0z @lv_own<|z0z @lv_nsl<|z0z @hd_cons<|z0z @os_nil<|z0z @os_cons<|z0z @ot_nil<|z0z @ot_own<|z0z @ot_int<|z0z @ot_bool<|z0z @ot_str<|z0z @va_nil<|z0z @va_cons<|z0z @co_some<|z0z @vv_int<|z0z @vv_bool<|z0z @vv_str<|z0z @wv_int<|z0z @wv_str<|z0z @agO_some<|z0z @vv_agg<|z0z @vl_nil<|z0z @vl_cons<|z0z @fsO_some<|z0z @vv_msl<|z0z @wv_msl<|z0z @vmE_some<|z0z @fz_nil<|z0z @fz_cons<|z0z @fz_int<|z0z @fz_str<|z0z @fz_agg<|z0z @fz_own<|z0z @nf_int<|z0z @nf_bool<|z0z @nf_str<|z0z @nf_agg<|z0z @nf_own<|z0z @nfl_nil<|z0z @nfl_cons<|z0z @or_nil<|z0z @or_cons<|z0z @on_int<|z0z @on_bool<|z0z @on_str<|z0z @ok_int<|z0z @ok_bool<|z0z @ok_str<|z0z @ok_msl<|z0z @ok_ptr<|z0z @ok_nsl<|z0z @nr_eq<|z0z @bx_eq<|z0z @wc_agg<|z0z @wc_int<|z0z @wc_bool<|z0z @wc_nsl<|z0z @ra_eq<|z0z @raE_0<|z0z @raE_1<|z0z @raE_sub<|z0z @sr_eq<|z0z @srE_row<|z0z @srE_sub<|z0z @srS_some<|z0z @srC_some<|z0z @srD_some<|z0z @pc_agg<|z0z @spR_some<|z0z @spE_some<|z0z @spB_true<|z0z @spB_false<|z0z @spC_true<|z0z @spC_false<|z0z @spO_some<|z0z @spQ_some<|z0z @spS_some<|z0z @rl_1<|z0z @sc_nil<|z0z @sc_clo<|z0z @sc_msl<|z0z @scM_row<|z0z @scK_some<|z0z @rsT_some<|z0z @rsC_val<|z0z @rsO_some<|z0z @rs_0<|z0z @rs_tmp<|z0z @rs_cell<|z0z @ok_fslN<|z0z @cl_fslN<|z0z @ce_fslN<|z0z @rf_fslN<|z0z @rv_fslN<|z0z @fz_fslN<|z0z @vv_fslN<|z0z @wv_fslN<|z0z @ln_fslN<|z0z @ix_fslN<|z0z @lv_fslN<|z0z @te_fslN<|z0z @pf_f<|z0z @pf_p<|z0z @ldW_eq<|z0z @oc_nil<|z0z @oc_own<|z0z @oc_int<|z0z @oc_bool<|z0z @oc_str<|z0z @oc_fslN<|z0z @oc_msl<|z0z @oc_ptr<|z0z @oc_nsl<|z0z @lv_ptr<|z0z @ce_ptr<|z0z @bs_eq<|z0z @bsE_some<|z0z @pl_nil<|z0z @pl_cons<|z0z @plE_some<|z0z @rl_0<|z0z @rl_2<|z0z @rl_5<|z0z @rl_7<|z0z @rl_8<|z0z @tk_all<|z0z @fp_ok<|z0z @fbK_some<|z0z @fb_nil<|z0z @fbP_some<|z0z @fb_cons<|z0z @agM_some<|z0z @inpK_val<|z0z @wp_eq<|z0z @wpE_some<|z0z @ap2_nil<|z0z @ro5<|z0z @pr_pan<|z0z @panP_i<|z0z @nc_ptr<|z0z @inpK_pan<|z0z @fl_none<|z0z @rtQ_eq<|z0z @rtQ_row<|z0z @Option.map_some.{0,0}<|z0z @List.take_succ_cons.{0}<|z0z @List.take_zero.{0}<|z0z @List.drop_succ_cons.{0}<|z0z @List.drop_zero.{0}<|z0z @Option.map_none.{0,0}<|z0z @List.all_cons.{0}<|z0z @List.all_nil.{0}<|z0z @List.isEmpty_cons.{0}<|z0z @List.isEmpty_nil.{0}<|z0z @List.mem_cons.{0}<|z0z @List.not_mem_nil.{0}<|z0z @or_false<|z0z @false_or<|z0z @or_true<|z0z @true_or<|z0z @not_false_eq_true<|z0z @not_true_eq_false<|z0z @and_true<|z0z @true_and<|z0z @and_self<|z0z @Bool.and_self<|z0z @Bool.and_true<|z0z @Bool.true_and<|z0z @List.set_cons_zero.{0}<|z0z @List.set_cons_succ.{0}<|z0z @List.flatMap_cons.{0,0}<|z0z @List.flatMap_nil.{0,0}<|z0z @List.filter_cons.{0}<|z0z @List.filter_nil.{0}<|z0z @eq_self.{1}<|z0z @List.nodup_cons.{0}<|z0z @List.nodup_nil.{0}<|z0z @Option.isSome_some.{0}<|z0z @Option.isSome_none.{0}<|z0z @Bool.or_true<|z0z @Bool.or_false<|z0z @Bool.true_or<|z0z @Bool.false_or<|z0z @Nat.le_refl<|z0z @Nat.lt_irrefl<|z0z @Nat.not_lt_zero<|z0z @Nat.zero_le<|z0z @decide_eq_true_eq<|z0z @ne_eq.{1}<|z0z @List.cons_append.{0}<|z0z @List.nil_append.{0}<|z0z @List.append_nil.{0}<|z0z @List.length_cons.{0}<|z0z @List.length_nil.{0}<|z0z @List.getElem?_cons_zero.{0}<|z0z @List.getElem?_cons_succ.{0}<|z0z @List.getElem?_nil.{0}<|z0z @Nat.add_zero<|z0z @Bool.not_true<|z0z @Bool.not_false<|z0z @decide_true<|z0z @decide_false<|z0z @Option.some.injEq.{0}<|z0z @Bool.true_eq_false<|z0z @Bool.false_eq_true<|z0z @u_not<|z0z @Option.isNone_some.{0}<|z0z @Option.isNone_none.{0}<|z0z @Bool.and_false<|z0z @Bool.false_and<|z0z @cond_false.{1}<|z0z @cond_true.{1}<|z0z @ont2<|z0z @ont3<|z0z @ty3_z<|z0z @ty3_b<|z0z @ty3_d<|z0z @ft3<|z0z @ty3_0<|z0z @pt3<|z0z @ont4<|z0z @ty4_z<|z0z @ty4_0<|z0z @pt4<|z0z @ont9<|z0z @pt9<|z0z @ont21<|z0z @ty21_d<|z0z @ont22<|z0z @ty22_d<|z0z @pt22<|z0z @el22<|z0z @ln22<|z0z @ap22<|z0z @ix22<|z0z @ont23<|z0z @ty23_d<|z0z @pt23<|z0z @el23<|z0z @ln23<|z0z @ap23<|z0z @ix23<|z0z @ont25<|z0z @ty25_z<|z0z @ty25_0<|z0z @bd25<|z0z @pl25_0<|z0z @fq25_0<|z0z @pl25_1<|z0z @fq25_1<|z0z @pt25<|z0z @ont26<|z0z @ty26_z<|z0z @ty26_b<|z0z @ty26_d<|z0z @ft26<|z0z @ty26_0<|z0z @pt26<|z0z @el26<|z0z @ln26<|z0z @ap26<|z0z @ix26<|z0z @ont35<|z0z @ty35_z<|z0z @ty35_0<|z0z @bd35<|z0z @pl35_0<|z0z @fq35_0<|z0z @pl35_1<|z0z @fq35_1<|z0z @pl35_2<|z0z @fq35_2<|z0z @ont46<|z0z @ty46_z<|z0z @ty46_b<|z0z @ft46<|z0z @ty46_0<|z0z @fq46_1<|z0z @fq46_2<|z0z @pt46<|z0z @ont47<|z0z @ty47_z<|z0z @ty47_d<|z0z @pt47<|z0z @el47<|z0z @ln47<|z0z @ap47<|z0z @ix47<|z0z @ont49<|z0z @ty49_z<|z0z @ty49_b<|z0z @ft49<|z0z @ty49_0<|z0z @bd49<|z0z @pl49_0<|z0z @fq49_0<|z0z @pl49_1<|z0z @fq49_1<|z0z @fq49_2<|z0z @pl49_3<|z0z @fq49_3<|z0z @fq49_4<|z0z @pt49<|z0z @ont50<|z0z @ty50_z<|z0z @ty50_d<|z0z @pt50<|z0z @el50<|z0z @ln50<|z0z @ap50<|z0z @ix50<|z0z @ont52<|z0z @ty52_z<|z0z @ty52_0<|z0z @bd52<|z0z @pl52_0<|z0z @fq52_0<|z0z @pl52_1<|z0z @fq52_1<|z0z @pl52_2<|z0z @fq52_2<|z0z @pl52_3<|z0z @fq52_3<|z0z @pt52<|z0z @ont54<|z0z @ty54_z<|z0z @ty54_b<|z0z @ft54<|z0z @ty54_0<|z0z @bd54<|z0z @pl54_0<|z0z @fq54_0<|z0z @pl54_1<|z0z @fq54_1<|z0z @pt54<|z0z @ont56<|z0z @ty56_z<|z0z @ty56_b<|z0z @ft56<|z0z @ty56_0<|z0z @fq56_0<|z0z @fq56_1<|z0z @fq56_2<|z0z @fq56_3<|z0z @fq56_4<|z0z @fq56_5<|z0z @fq56_6<|z0z @fq56_7<|z0z @pt56<|z0z @ont59<|z0z @ty59_z<|z0z @ty59_0<|z0z @bd59<|z0z @pl59_0<|z0z @fq59_0<|z0z @pl59_1<|z0z @fq59_1<|z0z @pt59<|z0z @ont63<|z0z @ty63_z<|z0z @ty63_0<|z0z @pt63<|z0z @ont64<|z0z @ty64_z<|z0z @ty64_d<|z0z @pt64<|z0z @el64<|z0z @ap64<|z0z @ix64<|z0z @ont66<|z0z @ty66_z<|z0z @ty66_0<|z0z @bd66<|z0z @pl66_0<|z0z @fq66_0<|z0z @pl66_1<|z0z @fq66_1<|z0z @pl66_2<|z0z @fq66_2<|z0z @fq66_3<|z0z @fq66_4<|z0z @fq66_5<|z0z @ont68<|z0z @ty68_z<|z0z @ty68_0<|z0z @bd68<|z0z @pl68_0<|z0z @fq68_0<|z0z @pl68_1<|z0z @fq68_1<|z0z @ont88<|z0z @ty88_d<|z0z @el88<|z0z @ln88<|z0z @ix88<|z0z @ont113<|z0z @ty113_d<|z0z @ont126<|z0z @ty126_d<|z0z @xo_eq<|z0z @xm_eq<|z0z @xg_eq<|z0z @tm_eq<|z0z @ki_eq<|z0z @cl_eq<|z0z @xa_eq<|z0z @xl_eq<|z0z @xf_eq<|z0z @xi_eq<|z0z @xn_eq<|z0z @xs_eq<|z0z @xb_eq<|z0z @gl_eq<|z0z @gf_eq<|z0z @R_eq<|z0z @qs_eq<|z0z @kf_eq<|@kt_eq
def XP:=And.intro XQ (And.intro @sp_eq Nat.zero_add)
end Go.Proofs.AmEnv
