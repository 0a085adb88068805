/- The tables of this program's types and functions, facts on them, and the rules. Conditions: none. -/
import Derived.Test.YtdjkjmdggoejcaaCode
set_option linter.unusedVariables false
set_option linter.unusedSimpArgs false
set_option linter.unusedSectionVars false
set_option linter.defProp false
set_option maxRecDepth 100000
set_option maxHeartbeats 4000000
open List renaming length→lz
open Option renaming some→zs,none→zn
open Bool renaming true→zt,false→zf
namespace Go.Proofs.AmEnv
abbrev C4{α:Type}(t m:Nat)(a b:α):α:=bif Nat.blt t m then a else b
abbrev C2{α:Type}(t m:Nat)(a:α):Option α:=bif Nat.beq t m then zs a else zn
open Go.AM
noncomputable def ty2:TI:=⟨.int .i64,1,8,.int .i64 0⟩
noncomputable def eY:TI:=⟨.int .i64,1,8,.int .i64 0⟩
noncomputable def ty4:TI:=⟨.bool,1,1,.bool zf⟩
noncomputable def ID:TI:=⟨.string,1,16,.str []⟩
noncomputable def WV:TI:=⟨.iface,1,16,.x0b⟩
noncomputable def DV:TI:=⟨.int .i32,1,4,.int .i32 0⟩
noncomputable def pF:TI:=⟨.slice 50,1,24,.x0a⟩
noncomputable def pG:TI:=⟨.slice 33,1,24,.x0a⟩
noncomputable def eZ:TI:=⟨.struct [(22,0),(23,1)] zf,2,48,.agg [.x0a,.x0a]⟩
noncomputable def WW:TI:=⟨.int .i64,1,8,.int .i64 0⟩
noncomputable def bS:TI:=⟨.slice 3,1,24,.x0a⟩
noncomputable def fA:TI:=⟨.slice 74,1,24,.x0a⟩
noncomputable def WX:TI:=⟨.struct [(9,0),(3,1),(3,2),(30,3),(31,4)] zf,5,80,.agg [(.str []),(.int .i64 0),(.int .i64 0),.x0a,.x0a]⟩
noncomputable def Fj:TI:=⟨.struct [(9,0),(3,1),(3,2),(30,3),(31,4)] zf,5,80,.agg [(.str []),(.int .i64 0),(.int .i64 0),.x0a,.x0a]⟩
noncomputable def jU:TI:=⟨.slice 38,1,24,.x0a⟩
noncomputable def WY:TI:=⟨.func,1,8,.x0e⟩
noncomputable def Mh:TI:=⟨.slice 4,1,24,.x0a⟩
noncomputable def WZ:TI:=⟨.func,1,8,.x0e⟩
noncomputable def XA:TI:=⟨.func,1,8,.x0e⟩
noncomputable def XB:TI:=⟨.struct [(30,0),(3,1),(3,2)] zf,3,40,.agg [.x0a,(.int .i64 0),(.int .i64 0)]⟩
noncomputable def XD:TI:=⟨.struct [(30,0),(3,1),(3,2)] zf,3,40,.agg [.x0a,(.int .i64 0),(.int .i64 0)]⟩
noncomputable def XE:TI:=⟨.func,1,8,.x0e⟩
noncomputable def Tz:TI:=⟨.struct [(9,0),(3,1),(3,2),(3,3)] zt,4,40,.agg [(.str []),(.int .i64 0),(.int .i64 0),(.int .i64 0)]⟩
noncomputable def XF:TI:=⟨.func,1,8,.x0e⟩
noncomputable def bT:TI:=⟨.struct [(25,0),(33,2)] zf,7,128,.agg [.x0a,.x0a,(.str []),(.int .i64 0),(.int .i64 0),.x0a,.x0a]⟩
noncomputable def Bq:TI:=⟨.struct [(3,0),(3,1),(3,2),(3,3),(3,4),(3,5),(9,6),(30,7)] zf,8,88,.agg [(.int .i64 0),(.int .i64 0),(.int .i64 0),(.int .i64 0),(.int .i64 0),(.int .i64 0),(.str []),.x0a]⟩
noncomputable def XG:TI:=⟨.func,1,8,.x0e⟩
noncomputable def XH:TI:=⟨.func,1,8,.x0e⟩
noncomputable def xH:TI:=⟨.slice 69,1,24,.x0a⟩
noncomputable def DW:TI:=⟨.func,1,8,.x0e⟩
noncomputable def fB:TI:=⟨.struct [(65,0)] zf,1,8,.agg [.x0e]⟩
noncomputable def Ic:TI:=⟨.struct [(3,0),(30,1)] zf,2,32,.agg [(.int .i64 0),.x0a]⟩
noncomputable def fC:TI:=⟨.slice 58,1,24,.x0a⟩
noncomputable def Wx:TI:=⟨.struct [(3,0),(3,1),(3,2),(3,3)] zt,4,32,.agg [(.int .i64 0),(.int .i64 0),(.int .i64 0),(.int .i64 0)]⟩
noncomputable def Ie:TI:=⟨.struct [(70,0),(72,1)] zf,5,56,.agg [.x0a,(.int .i64 0),(.int .i64 0),(.int .i64 0),(.int .i64 0)]⟩
noncomputable def tA:TI:=⟨.func,1,8,.x0e⟩
noncomputable def xI:TI:=⟨.func,1,8,.x0e⟩
noncomputable def XI:TI:=⟨.ptr 85,1,8,.x0c⟩
noncomputable def XJ:TI:=⟨.slice 30,1,24,.x0a⟩
noncomputable def XK:TI:=⟨.struct [(25,0),(30,2),(3,3),(83,4),(46,5),(3,8)] zf,9,152,.agg [.x0a,.x0a,.x0a,(.int .i64 0),.x0a,.x0a,(.int .i64 0),(.int .i64 0),(.int .i64 0)]⟩
noncomputable def XL:TI:=⟨.struct [(3,0),(3,1)] zt,2,16,.agg [(.int .i64 0),(.int .i64 0)]⟩
noncomputable def XM:TI:=⟨.func,1,8,.x0e⟩
noncomputable def XN:TI:=⟨.func,1,8,.x0e⟩
noncomputable def XO:TI:=⟨.func,1,8,.x0e⟩
noncomputable def XR:TI:=⟨.func,1,8,.x0e⟩
noncomputable def IE:TI:=⟨.func,1,8,.x0e⟩
noncomputable def IG:TI:=⟨.func,1,8,.x0e⟩
noncomputable def IH:TI:=⟨.func,1,8,.x0e⟩
noncomputable def II:TI:=⟨.func,1,8,.x0e⟩
noncomputable def IJ:TI:=⟨.func,1,8,.x0e⟩
noncomputable def tB:TI:=⟨.int .i8,1,1,.int .i8 0⟩
noncomputable def IK:TI:=⟨.int .u64,1,8,.int .u64 0⟩
noncomputable def ti(t:Nat):Option TI:=
 C4 t 60 (C4 t 33 (C4 t 22 (C4 t 9 (C4 t 3 (C2 t 2 ty2) (C4 t 4 (C2 t 3 eY) (C2 t 4 ty4))) (C4 t 20 (C2 t 9 ID) (C4 t 21 (C2 t 20 WV) (C2 t 21 DV)))) (C4 t 27 (C4 t 23 (C2 t 22 pF) (C4 t 25 (C2 t 23 pG) (C2 t 25 eZ))) (C4 t 31 (C4 t 30 (C2 t 27 WW) (C2 t 30 bS)) (C4 t 32 (C2 t 31 fA) (C2 t 32 WX))))) (C4 t 45 (C4 t 38 (C4 t 36 (C2 t 33 Fj) (C4 t 37 (C2 t 36 jU) (C2 t 37 WY))) (C4 t 42 (C2 t 38 Mh) (C4 t 43 (C2 t 42 WZ) (C2 t 43 XA)))) (C4 t 50 (C4 t 46 (C2 t 45 XB) (C4 t 47 (C2 t 46 XD) (C2 t 47 XE))) (C4 t 53 (C4 t 51 (C2 t 50 Tz) (C2 t 51 XF)) (C4 t 58 (C2 t 53 bT) (C2 t 58 Bq)))))) (C4 t 85 (C4 t 70 (C4 t 65 (C4 t 61 (C2 t 60 XG) (C4 t 62 (C2 t 61 XH) (C2 t 62 xH))) (C4 t 67 (C2 t 65 DW) (C4 t 69 (C2 t 67 fB) (C2 t 69 Ic)))) (C4 t 76 (C4 t 72 (C2 t 70 fC) (C4 t 74 (C2 t 72 Wx) (C2 t 74 Ie))) (C4 t 82 (C4 t 81 (C2 t 76 tA) (C2 t 81 xI)) (C4 t 83 (C2 t 82 XI) (C2 t 83 XJ))))) (C4 t 105 (C4 t 94 (C4 t 87 (C2 t 85 XK) (C4 t 93 (C2 t 87 XL) (C2 t 93 XM))) (C4 t 96 (C2 t 94 XN) (C4 t 97 (C2 t 96 XO) (C2 t 97 XR)))) (C4 t 114 (C4 t 109 (C2 t 105 IE) (C4 t 110 (C2 t 109 IG) (C2 t 110 IH))) (C4 t 130 (C4 t 124 (C2 t 114 II) (C2 t 124 IJ)) (C4 t 140 (C2 t 130 tB) (C2 t 140 IK))))))
noncomputable def fn(f:Nat):Option FI:=
 C4 f 46 (C4 f 26 (C4 f 16 (C4 f 8 (C4 f 6 (C4 f 5 (C2 f 3 fi3) (C2 f 5 fi5)) (C4 f 7 (C2 f 6 fi6) (C2 f 7 fi7))) (C4 f 10 (C4 f 9 (C2 f 8 fi8) (C2 f 9 fi9)) (C4 f 11 (C2 f 10 QQ) (C4 f 15 (C2 f 11 QS) (C2 f 15 QX))))) (C4 f 21 (C4 f 18 (C4 f 17 (C2 f 16 QZ) (C2 f 17 RB)) (C4 f 19 (C2 f 18 RE) (C4 f 20 (C2 f 19 RG) (C2 f 20 RI)))) (C4 f 23 (C4 f 22 (C2 f 21 RK) (C2 f 22 RM)) (C4 f 24 (C2 f 23 RO) (C4 f 25 (C2 f 24 RQ) (C2 f 25 RS)))))) (C4 f 36 (C4 f 30 (C4 f 28 (C4 f 27 (C2 f 26 RU) (C2 f 27 RW)) (C4 f 29 (C2 f 28 RY) (C2 f 29 SA))) (C4 f 32 (C4 f 31 (C2 f 30 SC) (C2 f 31 SE)) (C4 f 34 (C2 f 32 SG) (C4 f 35 (C2 f 34 SL) (C2 f 35 SN))))) (C4 f 41 (C4 f 38 (C4 f 37 (C2 f 36 SP) (C2 f 37 SR)) (C4 f 39 (C2 f 38 ST) (C4 f 40 (C2 f 39 SV) (C2 f 40 SX)))) (C4 f 43 (C4 f 42 (C2 f 41 TA) (C2 f 42 TE)) (C4 f 44 (C2 f 43 TG) (C4 f 45 (C2 f 44 TJ) (C2 f 45 TL))))))) (C4 f 67 (C4 f 57 (C4 f 50 (C4 f 48 (C4 f 47 (C2 f 46 TN) (C2 f 47 TP)) (C4 f 49 (C2 f 48 TR) (C2 f 49 TT))) (C4 f 52 (C4 f 51 (C2 f 50 TV) (C2 f 51 TX)) (C4 f 53 (C2 f 52 TZ) (C4 f 56 (C2 f 53 UB) (C2 f 56 UD))))) (C4 f 62 (C4 f 59 (C4 f 58 (C2 f 57 UF) (C2 f 58 UH)) (C4 f 60 (C2 f 59 UJ) (C4 f 61 (C2 f 60 UL) (C2 f 61 UN)))) (C4 f 64 (C4 f 63 (C2 f 62 UP) (C2 f 63 UR)) (C4 f 65 (C2 f 64 UT) (C4 f 66 (C2 f 65 UV) (C2 f 66 UY)))))) (C4 f 78 (C4 f 72 (C4 f 70 (C4 f 69 (C2 f 67 VB) (C2 f 69 VD)) (C4 f 71 (C2 f 70 VF) (C2 f 71 VH))) (C4 f 75 (C4 f 74 (C2 f 72 VK) (C2 f 74 VP)) (C4 f 76 (C2 f 75 VT) (C4 f 77 (C2 f 76 VW) (C2 f 77 VY))))) (C4 f 87 (C4 f 82 (C4 f 81 (C2 f 78 WA) (C2 f 81 WC)) (C4 f 84 (C2 f 82 WE) (C4 f 86 (C2 f 84 WH) (C2 f 86 WJ)))) (C4 f 89 (C4 f 88 (C2 f 87 WL) (C2 f 88 WN)) (C4 f 92 (C2 f 89 WP) (C4 f 93 (C2 f 92 WR) (C2 f 93 WT)))))))
noncomputable def A0:Env:=⟨ti,fn,fun _=>zn,fun f=>Nat.beq f 73,zs 0,fun _=>zf,fun _=>zn,fun _ _=>zf⟩
noncomputable section
def A2(f:Nat):Option PFn:=C4 f 46 (C4 f 26 (C4 f 16 (C4 f 8 (C4 f 6 (C4 f 5 (C2 f 3 pf3) (C2 f 5 pf5)) (C4 f 7 (C2 f 6 pf6) (C2 f 7 pf7))) (C4 f 10 (C4 f 9 (C2 f 8 pf8) (C2 f 9 pf9)) (C4 f 11 (C2 f 10 QR) (C4 f 15 (C2 f 11 QT) (C2 f 15 QY))))) (C4 f 21 (C4 f 18 (C4 f 17 (C2 f 16 RA) (C2 f 17 RD)) (C4 f 19 (C2 f 18 RF) (C4 f 20 (C2 f 19 RH) (C2 f 20 RJ)))) (C4 f 23 (C4 f 22 (C2 f 21 RL) (C2 f 22 RN)) (C4 f 24 (C2 f 23 RP) (C4 f 25 (C2 f 24 RR) (C2 f 25 RT)))))) (C4 f 36 (C4 f 30 (C4 f 28 (C4 f 27 (C2 f 26 RV) (C2 f 27 RX)) (C4 f 29 (C2 f 28 RZ) (C2 f 29 SB))) (C4 f 32 (C4 f 31 (C2 f 30 SD) (C2 f 31 SF)) (C4 f 34 (C2 f 32 SH) (C4 f 35 (C2 f 34 SM) (C2 f 35 SO))))) (C4 f 41 (C4 f 38 (C4 f 37 (C2 f 36 SQ) (C2 f 37 SS)) (C4 f 39 (C2 f 38 SU) (C4 f 40 (C2 f 39 SW) (C2 f 40 SZ)))) (C4 f 43 (C4 f 42 (C2 f 41 TB) (C2 f 42 TF)) (C4 f 44 (C2 f 43 TH) (C4 f 45 (C2 f 44 TK) (C2 f 45 TM))))))) (C4 f 67 (C4 f 57 (C4 f 50 (C4 f 48 (C4 f 47 (C2 f 46 TO) (C2 f 47 TQ)) (C4 f 49 (C2 f 48 TS) (C2 f 49 TU))) (C4 f 52 (C4 f 51 (C2 f 50 TW) (C2 f 51 TY)) (C4 f 53 (C2 f 52 UA) (C4 f 56 (C2 f 53 UC) (C2 f 56 UE))))) (C4 f 62 (C4 f 59 (C4 f 58 (C2 f 57 UG) (C2 f 58 UI)) (C4 f 60 (C2 f 59 UK) (C4 f 61 (C2 f 60 UM) (C2 f 61 UO)))) (C4 f 64 (C4 f 63 (C2 f 62 UQ) (C2 f 63 US)) (C4 f 65 (C2 f 64 UU) (C4 f 66 (C2 f 65 UW) (C2 f 66 UZ)))))) (C4 f 78 (C4 f 72 (C4 f 70 (C4 f 69 (C2 f 67 VC) (C2 f 69 VE)) (C4 f 71 (C2 f 70 VG) (C2 f 71 VI))) (C4 f 75 (C4 f 74 (C2 f 72 VM) (C2 f 74 VS)) (C4 f 76 (C2 f 75 VU) (C4 f 77 (C2 f 76 VX) (C2 f 77 VZ))))) (C4 f 87 (C4 f 82 (C4 f 81 (C2 f 78 WB) (C2 f 81 WD)) (C4 f 84 (C2 f 82 WG) (C4 f 86 (C2 f 84 WI) (C2 f 86 WK)))) (C4 f 89 (C4 f 88 (C2 f 87 WM) (C2 f 88 WO)) (C4 f 92 (C2 f 89 WQ) (C4 f 93 (C2 f 92 WS) (C2 f 93 WU)))))))
end
end Go.Proofs.AmEnv
set_option maxRecDepth 100000
set_option linter.unusedVariables false
namespace Go.Proofs.AmEnv
open Go Go.AM
noncomputable section
theorem g0d{f:TI->OpS}:c9 A0 3 f=f eY:=rfl
theorem ti3:A0.ti 3=zs eY:=rfl
theorem e0T:eY.size=1:=rfl
theorem e0U:eY.bytes=8:=rfl
theorem e0V:eY.desc=.int .i64:=rfl
theorem ft3:ni eY=zt:=rfl
theorem e0W:eY.zero=.int .i64 0:=rfl
theorem pt3(cs:List AV)(o:Nat):ct eY cs o=cs[o]?:=J3 rfl cs o
theorem g0e{f:TI->OpS}:c9 A0 4 f=f ty4:=rfl
theorem e0X:ty4.size=1:=rfl
theorem e0Y:ty4.bytes=1:=rfl
theorem e0Z:ty4.zero=.bool zf:=rfl
theorem pt4(cs:List AV)(o:Nat):ct ty4 cs o=cs[o]?:=J3 rfl cs o
theorem g0f{f:TI->OpS}:c9 A0 9 f=f ID:=rfl
theorem ti9:A0.ti 9=zs ID:=rfl
theorem pt9(cs:List AV)(o:Nat):ct ID cs o=cs[o]?:=J3 rfl cs o
theorem e00{f:TI->OpS}:c9 A0 21 f=f DV:=rfl
theorem a06:DV.desc=.int .i32:=rfl
theorem e01{f:TI->OpS}:c9 A0 22 f=f pF:=rfl
theorem XS:A0.ti 22=zs pF:=rfl
theorem g0g(cs:List AV)(o:Nat):ct pF cs o=cs[o]?:=J3 rfl cs o
theorem g0h(l:List TypeId)(x:AV)(r:List AV)(K:PK):G5 A0 .len (22::l) (x::r) K=qN x K:=rfl
theorem g0i(x:AV)(i:AV):Gj A0 pF x i=Xk Tz x i:=rfl
theorem e02{f:TI->OpS}:c9 A0 23 f=f pG:=rfl
theorem XT:A0.ti 23=zs pG:=rfl
theorem g0j(cs:List AV)(o:Nat):ct pG cs o=cs[o]?:=J3 rfl cs o
theorem g0k(l:List TypeId)(x:AV)(r:List AV)(K:PK):G5 A0 .len (23::l) (x::r) K=qN x K:=rfl
theorem g0l(x:AV)(i:AV):Gj A0 pG x i=Xk Fj x i:=rfl
theorem e03{f:TI->OpS}:c9 A0 25 f=f eZ:=rfl
theorem XU:A0.ti 25=zs eZ:=rfl
theorem a07:eZ.size=2:=rfl
theorem a08(x:AV):L3 A0 eZ 0 x=C0 x 0:=rfl
theorem a09(x:AV):L3 A0 eZ 1 x=C0 x 1:=rfl
theorem g0m(cs:List AV)(o:Nat):ct eZ cs o=if o+2<=lz cs then zs (.agg ((cs.drop o).take 2))else zn:=Q4 rfl cs o
theorem e04{f:TI->OpS}:c9 A0 30 f=f bS:=rfl
theorem XV:A0.ti 30=zs bS:=rfl
theorem b0a:bS.size=1:=rfl
theorem b0b:bS.desc=.slice 3:=rfl
theorem b0c:bS.zero=.x0a:=rfl
theorem g0n(cs:List AV)(o:Nat):ct bS cs o=cs[o]?:=J3 rfl cs o
theorem g0o:cu A0 (.slice 3)=zs eY:=rfl
theorem g0p(l:List TypeId)(x:AV)(r:List AV)(K:PK):G5 A0 .len (30::l) (x::r) K=qN x K:=rfl
theorem g0q(l:List TypeId)(s x:AV)(r:List AV)(K:PK):G5 A0 .append (30::30::l) (s::x::r) K=c8 eY s x K:=rfl
theorem g0r(x:AV)(i:AV):Gj A0 bS x i=Xk eY x i:=rfl
theorem e05{f:TI->OpS}:c9 A0 31 f=f fA:=rfl
theorem XW:A0.ti 31=zs fA:=rfl
theorem b0d:fA.size=1:=rfl
theorem b0e:fA.desc=.slice 74:=rfl
theorem g0s(cs:List AV)(o:Nat):ct fA cs o=cs[o]?:=J3 rfl cs o
theorem g0t:cu A0 (.slice 74)=zs Ie:=rfl
theorem g0u(l:List TypeId)(x:AV)(r:List AV)(K:PK):G5 A0 .len (31::l) (x::r) K=qN x K:=rfl
theorem g0v(l:List TypeId)(s x:AV)(r:List AV)(K:PK):G5 A0 .append (31::31::l) (s::x::r) K=c8 Ie s x K:=rfl
theorem g0w(x:AV)(i:AV):Gj A0 fA x i=Xk Ie x i:=rfl
theorem e06{f:TI->OpS}:c9 A0 33 f=f Fj:=rfl
theorem DY:A0.ti 33=zs Fj:=rfl
theorem wj:Fj.size=5:=rfl
theorem b0f:Fj.zero=.agg [(.str []),(.int .i64 0),(.int .i64 0),.x0a,.x0a]:=rfl
def xJ(i:Nat):Option (Nat×Nat):=A5 (Wj [(9,0),(3,1),(3,2),(30,3),(31,4)] i) fun f=>onTI A0 f.1 zn fun g=>zs (f.2,g.size)
theorem g0x(ps:List (Nat×AV)):X3 A0 Fj ps=HG (U9 xJ ps Fj.zero.cells):=rfl
theorem b0g:xJ 0=zs (0,1):=rfl
theorem b0h(x:AV):L3 A0 Fj 0 x=C0 x 0:=rfl
theorem b0i:xJ 1=zs (1,1):=rfl
theorem b0j(x:AV):L3 A0 Fj 1 x=C0 x 1:=rfl
theorem b0k:xJ 2=zs (2,1):=rfl
theorem b0l(x:AV):L3 A0 Fj 2 x=C0 x 2:=rfl
theorem b0m(x:AV):L3 A0 Fj 3 x=C0 x 3:=rfl
theorem b0n(x:AV):L3 A0 Fj 4 x=C0 x 4:=rfl
theorem g0y(cs:List AV)(o:Nat):ct Fj cs o=if o+5<=lz cs then zs (.agg ((cs.drop o).take 5))else zn:=Q4 rfl cs o
theorem e07{f:TI->OpS}:c9 A0 36 f=f jU:=rfl
theorem b0o:jU.size=1:=rfl
theorem b0p:jU.desc=.slice 38:=rfl
theorem b0q:jU.zero=.x0a:=rfl
theorem g0z(cs:List AV)(o:Nat):ct jU cs o=cs[o]?:=J3 rfl cs o
theorem g0A:cu A0 (.slice 38)=zs Mh:=rfl
theorem g0B(l:List TypeId)(x:AV)(r:List AV)(K:PK):G5 A0 .len (36::l) (x::r) K=qN x K:=rfl
theorem g0C(l:List TypeId)(s x:AV)(r:List AV)(K:PK):G5 A0 .append (36::36::l) (s::x::r) K=c8 Mh s x K:=rfl
theorem g0D(x:AV)(i:AV):Gj A0 jU x i=Xk Mh x i:=rfl
theorem e08{f:TI->OpS}:c9 A0 38 f=f Mh:=rfl
theorem b0r:Mh.size=1:=rfl
theorem b0s:Mh.bytes=24:=rfl
theorem b0t:Mh.desc=.slice 4:=rfl
theorem g0E:ni Mh=zf:=rfl
theorem b0u:Mh.zero=.x0a:=rfl
theorem g0F(cs:List AV)(o:Nat):ct Mh cs o=cs[o]?:=J3 rfl cs o
theorem g0G:cu A0 (.slice 4)=zs ty4:=rfl
theorem g0H(l:List TypeId)(x:AV)(r:List AV)(K:PK):G5 A0 .len (38::l) (x::r) K=qN x K:=rfl
theorem g0I(l:List TypeId)(s x:AV)(r:List AV)(K:PK):G5 A0 .append (38::38::l) (s::x::r) K=c8 ty4 s x K:=rfl
theorem g0J(x:AV)(i:AV):Gj A0 Mh x i=Xk ty4 x i:=rfl
theorem e09{f:TI->OpS}:c9 A0 50 f=f Tz:=rfl
theorem DZ:A0.ti 50=zs Tz:=rfl
theorem b0v:Tz.size=4:=rfl
theorem b0w:Tz.zero=.agg [(.str []),(.int .i64 0),(.int .i64 0),(.int .i64 0)]:=rfl
theorem b0x(x:AV):L3 A0 Tz 1 x=C0 x 1:=rfl
theorem b0y(x:AV):L3 A0 Tz 2 x=C0 x 2:=rfl
theorem g0K(cs:List AV)(o:Nat):ct Tz cs o=if o+4<=lz cs then zs (.agg ((cs.drop o).take 4))else zn:=Q4 rfl cs o
theorem f0a{f:TI->OpS}:c9 A0 53 f=f bT:=rfl
theorem b0z:bT.size=7:=rfl
theorem b0A:bT.zero=.agg [.x0a,.x0a,(.str []),(.int .i64 0),(.int .i64 0),.x0a,.x0a]:=rfl
def EA(i:Nat):Option (Nat×Nat):=A5 (Wj [(25,0),(33,2)] i) fun f=>onTI A0 f.1 zn fun g=>zs (f.2,g.size)
theorem g0L(ps:List (Nat×AV)):X3 A0 bT ps=HG (U9 EA ps bT.zero.cells):=rfl
theorem b0B:EA 0=zs (0,2):=rfl
theorem b0C(x:AV):L3 A0 bT 0 x=C0 x 0:=rfl
theorem b0D:EA 1=zs (2,5):=rfl
theorem b0E(x:AV):L3 A0 bT 1 x=C0 x 2:=rfl
theorem g0M(cs:List AV)(o:Nat):ct bT cs o=if o+7<=lz cs then zs (.agg ((cs.drop o).take 7))else zn:=Q4 rfl cs o
theorem f0b{f:TI->OpS}:c9 A0 58 f=f Bq:=rfl
theorem EB:A0.ti 58=zs Bq:=rfl
theorem b0F:Bq.size=8:=rfl
theorem b0G:Bq.bytes=88:=rfl
theorem g0N:ni Bq=zf:=rfl
theorem b0H:Bq.zero=.agg [(.int .i64 0),(.int .i64 0),(.int .i64 0),(.int .i64 0),(.int .i64 0),(.int .i64 0),(.str []),.x0a]:=rfl
theorem b0I(x:AV):L3 A0 Bq 0 x=C0 x 0:=rfl
theorem b0J(x:AV):L3 A0 Bq 1 x=C0 x 1:=rfl
theorem b0K(x:AV):L3 A0 Bq 2 x=C0 x 2:=rfl
theorem b0L(x:AV):L3 A0 Bq 3 x=C0 x 3:=rfl
theorem b0M(x:AV):L3 A0 Bq 4 x=C0 x 4:=rfl
theorem b0N(x:AV):L3 A0 Bq 5 x=C0 x 5:=rfl
theorem b0O(x:AV):L3 A0 Bq 6 x=C0 x 6:=rfl
theorem b0P(x:AV):L3 A0 Bq 7 x=C0 x 7:=rfl
theorem g0O(cs:List AV)(o:Nat):ct Bq cs o=if o+8<=lz cs then zs (.agg ((cs.drop o).take 8))else zn:=Q4 rfl cs o
theorem f0c{f:TI->OpS}:c9 A0 62 f=f xH:=rfl
theorem b0Q:xH.desc=.slice 69:=rfl
theorem g0P:cu A0 (.slice 69)=zs Ic:=rfl
theorem g0Q(l:List TypeId)(x:AV)(r:List AV)(K:PK):G5 A0 .len (62::l) (x::r) K=qN x K:=rfl
theorem g0R(l:List TypeId)(s x:AV)(r:List AV)(K:PK):G5 A0 .append (62::62::l) (s::x::r) K=c8 Ic s x K:=rfl
theorem g0S(x:AV)(i:AV):Gj A0 xH x i=Xk Ic x i:=rfl
theorem f0d{f:TI->OpS}:c9 A0 65 f=f DW:=rfl
theorem g0T(cs:List AV)(o:Nat):ct DW cs o=cs[o]?:=J3 rfl cs o
theorem f0e{f:TI->OpS}:c9 A0 67 f=f fB:=rfl
theorem b0R:fB.size=1:=rfl
theorem b0S:fB.zero=.agg [.x0e]:=rfl
def IL(i:Nat):Option (Nat×Nat):=A5 (Wj [(65,0)] i) fun f=>onTI A0 f.1 zn fun g=>zs (f.2,g.size)
theorem g0U(ps:List (Nat×AV)):X3 A0 fB ps=HG (U9 IL ps fB.zero.cells):=rfl
theorem b0T:IL 0=zs (0,1):=rfl
theorem b0U(x:AV):L3 A0 fB 0 x=C0 x 0:=rfl
theorem g0V(cs:List AV)(o:Nat):ct fB cs o=if o+1<=lz cs then zs (.agg ((cs.drop o).take 1))else zn:=Q4 rfl cs o
theorem f0f{f:TI->OpS}:c9 A0 69 f=f Ic:=rfl
theorem b0V:Ic.size=2:=rfl
theorem b0W:Ic.bytes=32:=rfl
theorem g0W:ni Ic=zf:=rfl
theorem b0X:Ic.zero=.agg [(.int .i64 0),.x0a]:=rfl
def IM(i:Nat):Option (Nat×Nat):=A5 (Wj [(3,0),(30,1)] i) fun f=>onTI A0 f.1 zn fun g=>zs (f.2,g.size)
theorem g0X(ps:List (Nat×AV)):X3 A0 Ic ps=HG (U9 IM ps Ic.zero.cells):=rfl
theorem b0Y:IM 0=zs (0,1):=rfl
theorem b0Z(x:AV):L3 A0 Ic 0 x=C0 x 0:=rfl
theorem b00(x:AV):L3 A0 Ic 1 x=C0 x 1:=rfl
theorem g0Y(cs:List AV)(o:Nat):ct Ic cs o=if o+2<=lz cs then zs (.agg ((cs.drop o).take 2))else zn:=Q4 rfl cs o
theorem f0g{f:TI->OpS}:c9 A0 70 f=f fC:=rfl
theorem XX:A0.ti 70=zs fC:=rfl
theorem b01:fC.size=1:=rfl
theorem b02:fC.desc=.slice 58:=rfl
theorem g0Z(cs:List AV)(o:Nat):ct fC cs o=cs[o]?:=J3 rfl cs o
theorem g00:cu A0 (.slice 58)=zs Bq:=rfl
theorem g01(l:List TypeId)(x:AV)(r:List AV)(K:PK):G5 A0 .len (70::l) (x::r) K=qN x K:=rfl
theorem g02(l:List TypeId)(s x:AV)(r:List AV)(K:PK):G5 A0 .append (70::70::l) (s::x::r) K=c8 Bq s x K:=rfl
theorem g03(x:AV)(i:AV):Gj A0 fC x i=Xk Bq x i:=rfl
theorem f0h{f:TI->OpS}:c9 A0 72 f=f Wx:=rfl
theorem XY:A0.ti 72=zs Wx:=rfl
theorem b03:Wx.size=4:=rfl
theorem b04(x:AV):L3 A0 Wx 0 x=C0 x 0:=rfl
theorem b05(x:AV):L3 A0 Wx 1 x=C0 x 1:=rfl
theorem b06(x:AV):L3 A0 Wx 2 x=C0 x 2:=rfl
theorem b07(x:AV):L3 A0 Wx 3 x=C0 x 3:=rfl
theorem g04(cs:List AV)(o:Nat):ct Wx cs o=if o+4<=lz cs then zs (.agg ((cs.drop o).take 4))else zn:=Q4 rfl cs o
theorem f0i{f:TI->OpS}:c9 A0 74 f=f Ie:=rfl
theorem EC:A0.ti 74=zs Ie:=rfl
theorem b08:Ie.size=5:=rfl
theorem b09:Ie.bytes=56:=rfl
theorem g05:ni Ie=zf:=rfl
theorem c0a:Ie.zero=.agg [.x0a,(.int .i64 0),(.int .i64 0),(.int .i64 0),(.int .i64 0)]:=rfl
def ED(i:Nat):Option (Nat×Nat):=A5 (Wj [(70,0),(72,1)] i) fun f=>onTI A0 f.1 zn fun g=>zs (f.2,g.size)
theorem g06(ps:List (Nat×AV)):X3 A0 Ie ps=HG (U9 ED ps Ie.zero.cells):=rfl
theorem c0b:ED 0=zs (0,1):=rfl
theorem c0c(x:AV):L3 A0 Ie 0 x=C0 x 0:=rfl
theorem c0d:ED 1=zs (1,4):=rfl
theorem c0e(x:AV):L3 A0 Ie 1 x=C0 x 1:=rfl
theorem g07(cs:List AV)(o:Nat):ct Ie cs o=if o+5<=lz cs then zs (.agg ((cs.drop o).take 5))else zn:=Q4 rfl cs o
theorem f0j{f:TI->OpS}:c9 A0 76 f=f tA:=rfl
theorem c0f:tA.size=1:=rfl
theorem c0g:tA.zero=.x0e:=rfl
theorem g08(cs:List AV)(o:Nat):ct tA cs o=cs[o]?:=J3 rfl cs o
theorem f0k{f:TI->OpS}:c9 A0 81 f=f xI:=rfl
theorem c0h:xI.size=1:=rfl
theorem g09(cs:List AV)(o:Nat):ct xI cs o=cs[o]?:=J3 rfl cs o
theorem c0i{f:TI->OpS}:c9 A0 130 f=f tB:=rfl
theorem xw:tB.desc=.int .i8:=rfl
end
theorem z0z{a b:Prop}(x:a)(y:b):a/\b:=⟨x,y⟩
def XQ:=z0z @f0p<|z0z @pw<|z0z @rj<|z0z @tf<|z0z @c0o<|z0z @c0p<|z0z @f0q<|z0z @f0r<|z0z @c0q<|z0z @f0s<|z0z @c0r<|z0z @qj<|z0z @px<|z0z @yh<|z0z @py<|z0z @rk<|z0z @tg<|z0z @c0s<|z0z @pf<|z0z @qk<|z0z @rp<|z0z @rq<|z0z @yi<|z0z @tj<|z0z @f0t<|z0z @h0a<|z0z @f0u<|z0z @f0v<|z0z @rx<|z0z @yj<|z0z @tn<|z0z @ry<|z0z @tq<|z0z @yk<|z0z @ym<|z0z @f0w<|z0z @h0b<|z0z @h0c<|z0z @yn<|z0z @tp<|z0z @c0t<|z0z @c0u<|z0z @h0d<|z0z @f0x<|z0z @f0y<|z0z @f0z<|z0z @c0v<|z0z @sg<|z0z @qn<|z0z @c0w<|z0z @yo<|z0z @yp<|z0z @yq<|z0z @c0x<|z0z @c0y<|z0z @yr<|z0z @c0z<|z0z @c0A<|z0z @yu<|z0z @c0B<|z0z @yv<|z0z @c0C<|z0z @yw<|z0z @c0D<|z0z @yx<|z0z @f0A<|z0z @f0B<|z0z @f0C<|z0z @tu<|z0z @tv<|z0z @yz<|z0z @rz<|z0z @za<|z0z @sa<|z0z @ql<|z0z @tz<|z0z @c0E<|z0z @ua<|z0z @qm<|z0z @zc<|z0z @ub<|z0z @c0F<|z0z @f0D<|z0z @zd<|z0z @f0E<|z0z @f0F<|z0z @f0G<|z0z @f0H<|z0z @c0G<|z0z @ze<|z0z @uc<|z0z @ud<|z0z @c0H<|z0z @c0I<|z0z @c0J<|z0z @c0K<|z0z @c0L<|z0z @c0M<|z0z @c0N<|z0z @c0O<|z0z @zg<|z0z @zh<|z0z @zi<|z0z @ue<|z0z @zj<|z0z @ww<|z0z @c0P<|z0z @c0Q<|z0z @wx<|z0z @wy<|z0z @yy<|z0z @h0e<|z0z @h0f<|z0z @uf<|z0z @ug<|z0z @c0R<|z0z @f0I<|z0z @zk<|z0z @f0J<|z0z @uh<|z0z @zl<|z0z @c0S<|z0z @f0K<|z0z @ui<|z0z @uj<|z0z @c0T<|z0z @zm<|z0z @c0U<|z0z @c0V<|z0z @c0W<|z0z @c0X<|z0z @c0Y<|z0z @c0Z<|z0z @c00<|z0z @zo<|z0z @c01<|z0z @c02<|z0z @c03<|z0z @c04<|z0z @c05<|z0z @c06<|z0z @c07<|z0z @zp<|z0z @ro6<|z0z @zq<|z0z @zr<|z0z @uk<|z0z @ul<|z0z @um<|z0z @c08<|z0z @f0L<|z0z @zu<|z0z @zw<|z0z @f0M<|z0z @zx<|z0z @f0N<|z0z @c09<|z0z @d0a<|z0z @zy<|z0z @d0b<|z0z @f0O<|z0z @d0c<|z0z @d0d<|z0z @a0a<|z0z @d0e<|z0z @a0b<|z0z @d0f<|z0z @a0c<|z0z @h0g<|z0z @h0h<|z0z @d0g<|z0z @d0h<|z0z @f0P<|z0z @a0d<|z0z @uq<|z0z @a0e<|z0z @f0Q<|z0z @d0i<|z0z @a0f<|z0z @f0l<|z0z @f0m<|z0z @h0i<|z0z @d0j<|z0z @a0g<|z0z @a0h<|z0z @d0k<|z0z @a0i<|z0z @d0l<|z0z @d0m<|z0z @d0n<|z0z @d0o<|z0z @d0p<|z0z @f0R<|z0z @d0q<|z0z @a0j<|z0z @ur<|z0z @ut<|z0z @f0S<|z0z @uu<|z0z @d0r<|z0z @a0k<|z0z @d0s<|z0z @uv<|z0z @d0t<|z0z @a0l<|z0z @d0u<|z0z @d0v<|z0z @d0w<|z0z @d0x<|z0z @d0y<|z0z @f0T<|z0z @a0m<|z0z @uw<|z0z @d0z<|z0z @a0n<|z0z @f0U<|z0z @d0A<|z0z @a0o<|z0z @d0B<|z0z @d0C<|z0z @d0D<|z0z @d0E<|z0z @d0F<|z0z @d0G<|z0z @a0p<|z0z @d0H<|z0z @d0I<|z0z @d0J<|z0z @d0K<|z0z @a0q<|z0z @d0L<|z0z @a0r<|z0z @d0M<|z0z @d0N<|z0z @d0O<|z0z @a0s<|z0z @d0P<|z0z @d0Q<|z0z @a0t<|z0z @a0u<|z0z @d0R<|z0z @a0v<|z0z @d0S<|z0z @d0T<|z0z @ux<|z0z @d0U<|z0z @d0V<|z0z @a0w<|z0z @uy<|z0z @wz<|z0z @pg<|z0z @uz<|z0z @d0W<|z0z @a0x<|z0z @d0X<|z0z @d0Y<|z0z @d0Z<|z0z @d00<|z0z @a0y<|z0z @d01<|z0z @d02<|z0z @d03<|z0z @a0z<|z0z @vd<|z0z @d04<|z0z @a0A<|z0z @d05<|z0z @a0B<|z0z @d06<|z0z @a0C<|z0z @d07<|z0z @d08<|z0z @d09<|z0z @f0V<|z0z @f0W<|z0z @f0X<|z0z @e0a<|z0z @e0b<|z0z @a0D<|z0z @e0c<|z0z @e0d<|z0z @f0Y<|z0z @f0Z<|z0z @f00<|z0z @a0E<|z0z @f01<|z0z @a0F<|z0z @a0G<|z0z @ve<|z0z @vf<|z0z @vg<|z0z @vh<|z0z @vi<|z0z @vj<|z0z @sd<|z0z @vk<|z0z @se<|z0z @vm<|z0z @vn<|z0z @vo<|z0z @h0j<|z0z @e0e<|z0z @e0f<|z0z @e0g<|z0z @a0H<|z0z @vp<|z0z @vq<|z0z @a0I<|z0z @vt<|z0z @h0k<|z0z @e0h<|z0z @a0J<|z0z @a0K<|z0z @a0L<|z0z @a0M<|z0z @a0N<|z0z @a0O<|z0z @a0P<|z0z @a0Q<|z0z @a0R<|z0z @js<|z0z @a0S<|z0z @a0T<|z0z @h0l<|z0z @h0m<|z0z @e0i<|z0z @e0j<|z0z @e0k<|z0z @e0l<|z0z @a0U<|z0z @e0m<|z0z @e0n<|z0z @a0V<|z0z @e0o<|z0z @e0p<|z0z @f03<|z0z @f04<|z0z @f05<|z0z @f06<|z0z @vu<|z0z @e0q<|z0z @a0W<|z0z @vy<|z0z @h0n<|z0z @h0o<|z0z @h0p<|z0z @h0q<|z0z @h0r<|z0z @e0r<|z0z @f07<|z0z @vz<|z0z @e0s<|z0z @wa<|z0z @a0X<|z0z @wb<|z0z @wc<|z0z @f08<|z0z @wd<|z0z @a0Y<|z0z @ro5<|z0z @a0Z<|z0z @e0t<|z0z @a00<|z0z @Option.map_some.{0,0}<|z0z @List.take_succ_cons.{0}<|z0z @List.take_zero.{0}<|z0z @List.drop_succ_cons.{0}<|z0z @List.drop_zero.{0}<|z0z @Option.map_none.{0,0}<|z0z @List.all_cons.{0}<|z0z @List.all_nil.{0}<|z0z @List.isEmpty_cons.{0}<|z0z @List.isEmpty_nil.{0}<|z0z @List.mem_cons.{0}<|z0z @List.not_mem_nil.{0}<|z0z @or_false<|z0z @false_or<|z0z @or_true<|z0z @true_or<|z0z @not_false_eq_true<|z0z @not_true_eq_false<|z0z @and_true<|z0z @true_and<|z0z @and_self<|z0z @Bool.and_self<|z0z @Bool.and_true<|z0z @Bool.true_and<|z0z @List.set_cons_zero.{0}<|z0z @List.set_cons_succ.{0}<|z0z @List.flatMap_cons.{0,0}<|z0z @List.flatMap_nil.{0,0}<|z0z @List.filter_cons.{0}<|z0z @List.filter_nil.{0}<|z0z @eq_self.{1}<|z0z @List.nodup_cons.{0}<|z0z @List.nodup_nil.{0}<|z0z @Option.isSome_some.{0}<|z0z @Option.isSome_none.{0}<|z0z @Bool.or_true<|z0z @Bool.or_false<|z0z @Bool.true_or<|z0z @Bool.false_or<|z0z @Nat.le_refl<|z0z @Nat.lt_irrefl<|z0z @Nat.not_lt_zero<|z0z @Nat.zero_le<|z0z @decide_eq_true_eq<|z0z @ne_eq.{1}<|z0z @List.cons_append.{0}<|z0z @List.nil_append.{0}<|z0z @List.append_nil.{0}<|z0z @List.length_cons.{0}<|z0z @List.length_nil.{0}<|z0z @List.getElem?_cons_zero.{0}<|z0z @List.getElem?_cons_succ.{0}<|z0z @List.getElem?_nil.{0}<|z0z @Nat.add_zero<|z0z @Bool.not_true<|z0z @Bool.not_false<|z0z @decide_true<|z0z @decide_false<|z0z @Option.some.injEq.{0}<|z0z @Bool.true_eq_false<|z0z @Bool.false_eq_true<|z0z @sx<|z0z @Option.isNone_some.{0}<|z0z @Option.isNone_none.{0}<|z0z @Bool.and_false<|z0z @Bool.false_and<|z0z @cond_false.{1}<|z0z @cond_true.{1}<|z0z @beq_self_eq_true.{0}<|z0z @bne_self_eq_false.{0}<|z0z @g0d<|z0z @e0T<|z0z @e0U<|z0z @e0V<|z0z @ft3<|z0z @e0W<|z0z @pt3<|z0z @g0e<|z0z @e0X<|z0z @e0Y<|z0z @e0Z<|z0z @pt4<|z0z @g0f<|z0z @pt9<|z0z @e00<|z0z @a06<|z0z @e01<|z0z @g0g<|z0z @g0h<|z0z @g0i<|z0z @e02<|z0z @g0j<|z0z @g0k<|z0z @g0l<|z0z @e03<|z0z @a07<|z0z @a08<|z0z @a09<|z0z @g0m<|z0z @e04<|z0z @b0a<|z0z @b0b<|z0z @b0c<|z0z @g0n<|z0z @g0o<|z0z @g0p<|z0z @g0q<|z0z @g0r<|z0z @e05<|z0z @b0d<|z0z @b0e<|z0z @g0s<|z0z @g0t<|z0z @g0u<|z0z @g0v<|z0z @g0w<|z0z @e06<|z0z @wj<|z0z @b0f<|z0z @g0x<|z0z @b0g<|z0z @b0h<|z0z @b0i<|z0z @b0j<|z0z @b0k<|z0z @b0l<|z0z @b0m<|z0z @b0n<|z0z @g0y<|z0z @e07<|z0z @b0o<|z0z @b0p<|z0z @b0q<|z0z @g0z<|z0z @g0A<|z0z @g0B<|z0z @g0C<|z0z @g0D<|z0z @e08<|z0z @b0r<|z0z @b0s<|z0z @b0t<|z0z @g0E<|z0z @b0u<|z0z @g0F<|z0z @g0G<|z0z @g0H<|z0z @g0I<|z0z @g0J<|z0z @e09<|z0z @b0v<|z0z @b0w<|z0z @b0x<|z0z @b0y<|z0z @g0K<|z0z @f0a<|z0z @b0z<|z0z @b0A<|z0z @g0L<|z0z @b0B<|z0z @b0C<|z0z @b0D<|z0z @b0E<|z0z @g0M<|z0z @f0b<|z0z @b0F<|z0z @b0G<|z0z @g0N<|z0z @b0H<|z0z @b0I<|z0z @b0J<|z0z @b0K<|z0z @b0L<|z0z @b0M<|z0z @b0N<|z0z @b0O<|z0z @b0P<|z0z @g0O<|z0z @f0c<|z0z @b0Q<|z0z @g0P<|z0z @g0Q<|z0z @g0R<|z0z @g0S<|z0z @f0d<|z0z @g0T<|z0z @f0e<|z0z @b0R<|z0z @b0S<|z0z @g0U<|z0z @b0T<|z0z @b0U<|z0z @g0V<|z0z @f0f<|z0z @b0V<|z0z @b0W<|z0z @g0W<|z0z @b0X<|z0z @g0X<|z0z @b0Y<|z0z @b0Z<|z0z @b00<|z0z @g0Y<|z0z @f0g<|z0z @b01<|z0z @b02<|z0z @g0Z<|z0z @g00<|z0z @g01<|z0z @g02<|z0z @g03<|z0z @f0h<|z0z @b03<|z0z @b04<|z0z @b05<|z0z @b06<|z0z @b07<|z0z @g04<|z0z @f0i<|z0z @b08<|z0z @b09<|z0z @g05<|z0z @c0a<|z0z @g06<|z0z @c0b<|z0z @c0c<|z0z @c0d<|z0z @c0e<|z0z @g07<|z0z @f0j<|z0z @c0f<|z0z @c0g<|z0z @g08<|z0z @f0k<|z0z @c0h<|z0z @g09<|z0z @c0i<|z0z @xw<|z0z @e0B<|z0z @e0C<|z0z @e0D<|z0z @e0E<|z0z @e0F<|z0z @e0G<|z0z @e0H<|z0z @e0I<|z0z @e0J<|z0z @e0K<|z0z @e0L<|z0z @e0M<|z0z @e0N<|z0z @e0O<|z0z @e0P<|z0z @g0c<|z0z @e0Q<|z0z @e0R<|@e0S
def XP:=And.intro XQ (And.intro @f02 Nat.zero_add)
end Go.Proofs.AmEnv
