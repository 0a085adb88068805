/- The tables of this program's types and functions, facts on them, and the rules. Conditions: none. -/
import Derived.Test.YtjmbnofdnenjfaaCode
set_option linter.unusedVariables false
set_option linter.unusedSimpArgs false
set_option linter.unusedSectionVars false
set_option linter.defProp false
set_option maxRecDepth 100000
set_option maxHeartbeats 4000000
namespace Go.Proofs.AmEnv
abbrev D9{α:Type}(t m:Nat)(a b:α):α:=bif Nat.blt t m then a else b
abbrev D7{α:Type}(t m:Nat)(a:α):Option α:=bif Nat.beq t m then some a else none
open Go.AM
noncomputable def Yu:TI:=⟨.int .i64,1,8,.int .i64 0⟩
noncomputable def ty4:TI:=⟨.bool,1,1,.bool false⟩
noncomputable def HB:TI:=⟨.string,1,16,.str []⟩
noncomputable def VK:TI:=⟨.ptr 121,1,8,.nilptr⟩
noncomputable def DY:TI:=⟨.int .i32,1,4,.int .i32 0⟩
noncomputable def pY:TI:=⟨.slice 67,1,24,.nilsl⟩
noncomputable def pZ:TI:=⟨.slice 31,1,24,.nilsl⟩
noncomputable def fK:TI:=⟨.struct [(22,0),(23,1)] false,2,48,.agg [.nilsl,.nilsl]⟩
noncomputable def fL:TI:=⟨.slice 3,1,24,.nilsl⟩
noncomputable def fM:TI:=⟨.slice 45,1,24,.nilsl⟩
noncomputable def Fp:TI:=⟨.struct [(9,0),(3,1),(3,2),(28,3),(29,4)] false,5,80,.agg [(.str []),(.int .i64 0),(.int .i64 0),.nilsl,.nilsl]⟩
noncomputable def VM:TI:=⟨.func,1,8,.nilfn⟩
noncomputable def kH:TI:=⟨.slice 39,1,24,.nilsl⟩
noncomputable def VP:TI:=⟨.func,1,8,.nilfn⟩
noncomputable def VS:TI:=⟨.func,1,8,.nilfn⟩
noncomputable def Js:TI:=⟨.slice 4,1,24,.nilsl⟩
noncomputable def fN:TI:=⟨.slice 50,1,24,.nilsl⟩
noncomputable def VT:TI:=⟨.struct [(3,0),(3,1),(3,2),(3,3)] true,4,32,.agg [(.int .i64 0),(.int .i64 0),(.int .i64 0),(.int .i64 0)]⟩
noncomputable def No:TI:=⟨.struct [(3,0),(3,1),(3,2),(3,3)] true,4,32,.agg [(.int .i64 0),(.int .i64 0),(.int .i64 0),(.int .i64 0)]⟩
noncomputable def Ed:TI:=⟨.struct [(41,0),(43,1)] false,5,56,.agg [.nilsl,(.int .i64 0),(.int .i64 0),(.int .i64 0),(.int .i64 0)]⟩
noncomputable def VU:TI:=⟨.int .i64,1,8,.int .i64 0⟩
noncomputable def VW:TI:=⟨.func,1,8,.nilfn⟩
noncomputable def u5:TI:=⟨.struct [(3,0),(3,1),(3,2),(3,3),(3,4),(3,5),(9,6),(28,7)] false,8,88,.agg [(.int .i64 0),(.int .i64 0),(.int .i64 0),(.int .i64 0),(.int .i64 0),(.int .i64 0),(.str []),.nilsl]⟩
noncomputable def yH:TI:=⟨.func,1,8,.nilfn⟩
noncomputable def VX:TI:=⟨.func,1,8,.nilfn⟩
noncomputable def uA:TI:=⟨.func,1,8,.nilfn⟩
noncomputable def VY:TI:=⟨.func,1,8,.nilfn⟩
noncomputable def Ty:TI:=⟨.struct [(9,0),(3,1),(3,2),(3,3)] true,4,40,.agg [(.str []),(.int .i64 0),(.int .i64 0),(.int .i64 0)]⟩
noncomputable def bN:TI:=⟨.struct [(25,0),(31,2)] false,7,128,.agg [.nilsl,.nilsl,(.str []),(.int .i64 0),(.int .i64 0),.nilsl,.nilsl]⟩
noncomputable def VZ:TI:=⟨.func,1,8,.nilfn⟩
noncomputable def WA:TI:=⟨.func,1,8,.nilfn⟩
noncomputable def WB:TI:=⟨.func,1,8,.nilfn⟩
noncomputable def WC:TI:=⟨.func,1,8,.nilfn⟩
noncomputable def uB:TI:=⟨.int .i8,1,1,.int .i8 0⟩
noncomputable def HC:TI:=⟨.struct [(17,0),(17,1),(17,2),(9,3)] false,4,40,.agg [.nilptr,.nilptr,.nilptr,(.str [])]⟩
noncomputable def HE:TI:=⟨.array 0 16,0,0,.agg []⟩
noncomputable def ti(t:Nat):Option TI:=
 D9 t 43 (D9 t 29 (D9 t 21 (D9 t 9 (D9 t 4 (D7 t 3 Yu) (D7 t 4 ty4)) (D9 t 17 (D7 t 9 HB) (D7 t 17 VK))) (D9 t 23 (D9 t 22 (D7 t 21 DY) (D7 t 22 pY)) (D9 t 25 (D7 t 23 pZ) (D9 t 28 (D7 t 25 fK) (D7 t 28 fL))))) (D9 t 37 (D9 t 32 (D9 t 31 (D7 t 29 fM) (D7 t 31 Fp)) (D9 t 33 (D7 t 32 VM) (D7 t 33 kH))) (D9 t 39 (D9 t 38 (D7 t 37 VP) (D7 t 38 VS)) (D9 t 41 (D7 t 39 Js) (D9 t 42 (D7 t 41 fN) (D7 t 42 VT)))))) (D9 t 67 (D9 t 50 (D9 t 46 (D9 t 45 (D7 t 43 No) (D7 t 45 Ed)) (D9 t 47 (D7 t 46 VU) (D7 t 47 VW))) (D9 t 60 (D9 t 59 (D7 t 50 u5) (D7 t 59 yH)) (D9 t 61 (D7 t 60 VX) (D9 t 62 (D7 t 61 uA) (D7 t 62 VY))))) (D9 t 94 (D9 t 85 (D9 t 69 (D7 t 67 Ty) (D7 t 69 bN)) (D9 t 92 (D7 t 85 VZ) (D7 t 92 WA))) (D9 t 101 (D9 t 97 (D7 t 94 WB) (D7 t 97 WC)) (D9 t 109 (D7 t 101 uB) (D9 t 110 (D7 t 109 HC) (D7 t 110 HE))))))
noncomputable def fn(f:Nat):Option FI:=
 D9 f 37 (D9 f 20 (D9 f 11 (D9 f 7 (D9 f 5 (D9 f 4 (D7 f 3 fi3) (D7 f 4 fi4)) (D9 f 6 (D7 f 5 fi5) (D7 f 6 fi6))) (D9 f 9 (D9 f 8 (D7 f 7 fi7) (D7 f 8 fi8)) (D9 f 10 (D7 f 9 fi9) (D7 f 10 QH)))) (D9 f 15 (D9 f 13 (D9 f 12 (D7 f 11 QJ) (D7 f 12 QL)) (D9 f 14 (D7 f 13 QN) (D7 f 14 QP))) (D9 f 17 (D9 f 16 (D7 f 15 QR) (D7 f 16 QT)) (D9 f 18 (D7 f 17 QV) (D9 f 19 (D7 f 18 QX) (D7 f 19 QZ)))))) (D9 f 28 (D9 f 24 (D9 f 22 (D9 f 21 (D7 f 20 RB) (D7 f 21 RE)) (D9 f 23 (D7 f 22 RG) (D7 f 23 RI))) (D9 f 26 (D9 f 25 (D7 f 24 RK) (D7 f 25 RM)) (D9 f 27 (D7 f 26 RO) (D7 f 27 RQ)))) (D9 f 32 (D9 f 30 (D9 f 29 (D7 f 28 RS) (D7 f 29 RU)) (D9 f 31 (D7 f 30 RW) (D7 f 31 RY))) (D9 f 34 (D9 f 33 (D7 f 32 SA) (D7 f 33 SC)) (D9 f 35 (D7 f 34 SE) (D9 f 36 (D7 f 35 SG) (D7 f 36 SJ))))))) (D9 f 54 (D9 f 45 (D9 f 41 (D9 f 39 (D9 f 38 (D7 f 37 SL) (D7 f 38 SN)) (D9 f 40 (D7 f 39 SQ) (D7 f 40 SS))) (D9 f 43 (D9 f 42 (D7 f 41 SU) (D7 f 42 SW)) (D9 f 44 (D7 f 43 SZ) (D7 f 44 TB)))) (D9 f 49 (D9 f 47 (D9 f 46 (D7 f 45 TF) (D7 f 46 TH)) (D9 f 48 (D7 f 47 TK) (D7 f 48 TM))) (D9 f 51 (D9 f 50 (D7 f 49 TO) (D7 f 50 TQ)) (D9 f 52 (D7 f 51 TS) (D9 f 53 (D7 f 52 TU) (D7 f 53 TW)))))) (D9 f 63 (D9 f 58 (D9 f 56 (D9 f 55 (D7 f 54 TZ) (D7 f 55 UB)) (D9 f 57 (D7 f 56 UD) (D7 f 57 UF))) (D9 f 60 (D9 f 59 (D7 f 58 UH) (D7 f 59 UJ)) (D9 f 61 (D7 f 60 UL) (D9 f 62 (D7 f 61 UN) (D7 f 62 UP))))) (D9 f 68 (D9 f 66 (D9 f 64 (D7 f 63 UR) (D7 f 64 UT)) (D9 f 67 (D7 f 66 UV) (D7 f 67 UX))) (D9 f 70 (D9 f 69 (D7 f 68 UZ) (D7 f 69 VB)) (D9 f 71 (D7 f 70 VD) (D9 f 73 (D7 f 71 VF) (D7 f 73 VH)))))))
noncomputable def A0:Env:=⟨ti,fn,fun _=>none,fun f=>Nat.beq f 65,some 0,fun _=>false,fun _=>none,fun _ _=>false⟩
noncomputable section
def A2(f:Nat):Option PFn:=D9 f 37 (D9 f 20 (D9 f 11 (D9 f 7 (D9 f 5 (D9 f 4 (D7 f 3 pf3) (D7 f 4 pf4)) (D9 f 6 (D7 f 5 pf5) (D7 f 6 pf6))) (D9 f 9 (D9 f 8 (D7 f 7 pf7) (D7 f 8 pf8)) (D9 f 10 (D7 f 9 pf9) (D7 f 10 QI)))) (D9 f 15 (D9 f 13 (D9 f 12 (D7 f 11 QK) (D7 f 12 QM)) (D9 f 14 (D7 f 13 QO) (D7 f 14 QQ))) (D9 f 17 (D9 f 16 (D7 f 15 QS) (D7 f 16 QU)) (D9 f 18 (D7 f 17 QW) (D9 f 19 (D7 f 18 QY) (D7 f 19 RA)))))) (D9 f 28 (D9 f 24 (D9 f 22 (D9 f 21 (D7 f 20 RD) (D7 f 21 RF)) (D9 f 23 (D7 f 22 RH) (D7 f 23 RJ))) (D9 f 26 (D9 f 25 (D7 f 24 RL) (D7 f 25 RN)) (D9 f 27 (D7 f 26 RP) (D7 f 27 RR)))) (D9 f 32 (D9 f 30 (D9 f 29 (D7 f 28 RT) (D7 f 29 RV)) (D9 f 31 (D7 f 30 RX) (D7 f 31 RZ))) (D9 f 34 (D9 f 33 (D7 f 32 SB) (D7 f 33 SD)) (D9 f 35 (D7 f 34 SF) (D9 f 36 (D7 f 35 SH) (D7 f 36 SK))))))) (D9 f 54 (D9 f 45 (D9 f 41 (D9 f 39 (D9 f 38 (D7 f 37 SM) (D7 f 38 SO)) (D9 f 40 (D7 f 39 SR) (D7 f 40 ST))) (D9 f 43 (D9 f 42 (D7 f 41 SV) (D7 f 42 SX)) (D9 f 44 (D7 f 43 TA) (D7 f 44 TE)))) (D9 f 49 (D9 f 47 (D9 f 46 (D7 f 45 TG) (D7 f 46 TJ)) (D9 f 48 (D7 f 47 TL) (D7 f 48 TN))) (D9 f 51 (D9 f 50 (D7 f 49 TP) (D7 f 50 TR)) (D9 f 52 (D7 f 51 TT) (D9 f 53 (D7 f 52 TV) (D7 f 53 TX)))))) (D9 f 63 (D9 f 58 (D9 f 56 (D9 f 55 (D7 f 54 UA) (D7 f 55 UC)) (D9 f 57 (D7 f 56 UE) (D7 f 57 UG))) (D9 f 60 (D9 f 59 (D7 f 58 UI) (D7 f 59 UK)) (D9 f 61 (D7 f 60 UM) (D9 f 62 (D7 f 61 UO) (D7 f 62 UQ))))) (D9 f 68 (D9 f 66 (D9 f 64 (D7 f 63 US) (D7 f 64 UU)) (D9 f 67 (D7 f 66 UW) (D7 f 67 UY))) (D9 f 70 (D9 f 69 (D7 f 68 VA) (D7 f 69 VC)) (D9 f 71 (D7 f 70 VE) (D9 f 73 (D7 f 71 VG) (D7 f 73 VI)))))))
end
end Go.Proofs.AmEnv
set_option maxRecDepth 100000
set_option linter.unusedVariables false
namespace Go.Proofs.AmEnv
open Go Go.AM
noncomputable section
theorem ont3{f:TI->OpS}:g9 A0 3 f=f Yu:=rfl
theorem ZK:A0.ti 3=some Yu:=rfl
theorem ty3_z:Yu.size=1:=rfl
theorem ty3_b:Yu.bytes=8:=rfl
theorem ty3_d:Yu.desc=.int .i64:=rfl
theorem ft3:flatT Yu=true:=rfl
theorem ty3_0:Yu.zero=.int .i64 0:=rfl
theorem pt3(cs:List AV)(o:Nat):partOf Yu cs o=cs[o]?:=J9 rfl cs o
theorem ont4{f:TI->OpS}:g9 A0 4 f=f ty4:=rfl
theorem ty4_z:ty4.size=1:=rfl
theorem ty4_b:ty4.bytes=1:=rfl
theorem ty4_0:ty4.zero=.bool false:=rfl
theorem pt4(cs:List AV)(o:Nat):partOf ty4 cs o=cs[o]?:=J9 rfl cs o
theorem ont9{f:TI->OpS}:g9 A0 9 f=f HB:=rfl
theorem ti9:A0.ti 9=some HB:=rfl
theorem pt9(cs:List AV)(o:Nat):partOf HB cs o=cs[o]?:=J9 rfl cs o
theorem ont21{f:TI->OpS}:g9 A0 21 f=f DY:=rfl
theorem ty21_d:DY.desc=.int .i32:=rfl
theorem ont22{f:TI->OpS}:g9 A0 22 f=f pY:=rfl
theorem WD:A0.ti 22=some pY:=rfl
theorem pt22(cs:List AV)(o:Nat):partOf pY cs o=cs[o]?:=J9 rfl cs o
theorem ln22(l:List TypeId)(x:AV)(r:List AV)(K:PK):I8 A0 .len (22::l) (x::r) K=xF x K:=rfl
theorem ix22(x:AV)(i:AV):Jg A0 pY x i=Qp Ty x i:=rfl
theorem ont23{f:TI->OpS}:g9 A0 23 f=f pZ:=rfl
theorem WE:A0.ti 23=some pZ:=rfl
theorem pt23(cs:List AV)(o:Nat):partOf pZ cs o=cs[o]?:=J9 rfl cs o
theorem ln23(l:List TypeId)(x:AV)(r:List AV)(K:PK):I8 A0 .len (23::l) (x::r) K=xF x K:=rfl
theorem ix23(x:AV)(i:AV):Jg A0 pZ x i=Qp Fp x i:=rfl
theorem ont25{f:TI->OpS}:g9 A0 25 f=f fK:=rfl
theorem WG:A0.ti 25=some fK:=rfl
theorem ty25_z:fK.size=2:=rfl
theorem fq25_0(x:AV):N4 A0 fK 0 x=C4 x 0:=rfl
theorem fq25_1(x:AV):N4 A0 fK 1 x=C4 x 1:=rfl
theorem pt25(cs:List AV)(o:Nat):partOf fK cs o=if o+2<=cs.length then some (.agg ((cs.drop o).take 2))else none:=Z6 rfl cs o
theorem ont28{f:TI->OpS}:g9 A0 28 f=f fL:=rfl
theorem WH:A0.ti 28=some fL:=rfl
theorem ty28_z:fL.size=1:=rfl
theorem ty28_d:fL.desc=.slice 3:=rfl
theorem pt28(cs:List AV)(o:Nat):partOf fL cs o=cs[o]?:=J9 rfl cs o
theorem el28:elemOfT A0 (.slice 3)=some Yu:=rfl
theorem ln28(l:List TypeId)(x:AV)(r:List AV)(K:PK):I8 A0 .len (28::l) (x::r) K=xF x K:=rfl
theorem ap28(l:List TypeId)(s x:AV)(r:List AV)(K:PK):I8 A0 .append (28::28::l) (s::x::r) K=m7 Yu s x K:=rfl
theorem ix28(x:AV)(i:AV):Jg A0 fL x i=Qp Yu x i:=rfl
theorem ont29{f:TI->OpS}:g9 A0 29 f=f fM:=rfl
theorem WI:A0.ti 29=some fM:=rfl
theorem ty29_z:fM.size=1:=rfl
theorem ty29_d:fM.desc=.slice 45:=rfl
theorem pt29(cs:List AV)(o:Nat):partOf fM cs o=cs[o]?:=J9 rfl cs o
theorem el29:elemOfT A0 (.slice 45)=some Ed:=rfl
theorem ln29(l:List TypeId)(x:AV)(r:List AV)(K:PK):I8 A0 .len (29::l) (x::r) K=xF x K:=rfl
theorem ap29(l:List TypeId)(s x:AV)(r:List AV)(K:PK):I8 A0 .append (29::29::l) (s::x::r) K=m7 Ed s x K:=rfl
theorem ix29(x:AV)(i:AV):Jg A0 fM x i=Qp Ed x i:=rfl
theorem ont31{f:TI->OpS}:g9 A0 31 f=f Fp:=rfl
theorem DZ:A0.ti 31=some Fp:=rfl
theorem ty31_z:Fp.size=5:=rfl
theorem ty31_0:Fp.zero=.agg [(.str []),(.int .i64 0),(.int .i64 0),.nilsl,.nilsl]:=rfl
def uC(i:Nat):Option (Nat×Nat):=A7 (Wv [(9,0),(3,1),(3,2),(28,3),(29,4)] i) fun f=>onTI A0 f.1 none fun g=>some (f.2,g.size)
theorem bd31(ps:List (Nat×AV)):X5 A0 Fp ps=GP (V3 uC ps Fp.zero.cells):=rfl
theorem pl31_0:uC 0=some (0,1):=rfl
theorem fq31_0(x:AV):N4 A0 Fp 0 x=C4 x 0:=rfl
theorem pl31_1:uC 1=some (1,1):=rfl
theorem fq31_1(x:AV):N4 A0 Fp 1 x=C4 x 1:=rfl
theorem fq31_2(x:AV):N4 A0 Fp 2 x=C4 x 2:=rfl
theorem pl31_3:uC 3=some (3,1):=rfl
theorem fq31_3(x:AV):N4 A0 Fp 3 x=C4 x 3:=rfl
theorem pl31_4:uC 4=some (4,1):=rfl
theorem fq31_4(x:AV):N4 A0 Fp 4 x=C4 x 4:=rfl
theorem pt31(cs:List AV)(o:Nat):partOf Fp cs o=if o+5<=cs.length then some (.agg ((cs.drop o).take 5))else none:=Z6 rfl cs o
theorem ont33{f:TI->OpS}:g9 A0 33 f=f kH:=rfl
theorem ty33_z:kH.size=1:=rfl
theorem ty33_d:kH.desc=.slice 39:=rfl
theorem ty33_0:kH.zero=.nilsl:=rfl
theorem pt33(cs:List AV)(o:Nat):partOf kH cs o=cs[o]?:=J9 rfl cs o
theorem el33:elemOfT A0 (.slice 39)=some Js:=rfl
theorem ln33(l:List TypeId)(x:AV)(r:List AV)(K:PK):I8 A0 .len (33::l) (x::r) K=xF x K:=rfl
theorem ap33(l:List TypeId)(s x:AV)(r:List AV)(K:PK):I8 A0 .append (33::33::l) (s::x::r) K=m7 Js s x K:=rfl
theorem ix33(x:AV)(i:AV):Jg A0 kH x i=Qp Js x i:=rfl
theorem ont39{f:TI->OpS}:g9 A0 39 f=f Js:=rfl
theorem ty39_z:Js.size=1:=rfl
theorem ty39_b:Js.bytes=24:=rfl
theorem ty39_d:Js.desc=.slice 4:=rfl
theorem ft39:flatT Js=false:=rfl
theorem ty39_0:Js.zero=.nilsl:=rfl
theorem pt39(cs:List AV)(o:Nat):partOf Js cs o=cs[o]?:=J9 rfl cs o
theorem el39:elemOfT A0 (.slice 4)=some ty4:=rfl
theorem ln39(l:List TypeId)(x:AV)(r:List AV)(K:PK):I8 A0 .len (39::l) (x::r) K=xF x K:=rfl
theorem ap39(l:List TypeId)(s x:AV)(r:List AV)(K:PK):I8 A0 .append (39::39::l) (s::x::r) K=m7 ty4 s x K:=rfl
theorem ix39(x:AV)(i:AV):Jg A0 Js x i=Qp ty4 x i:=rfl
theorem ont41{f:TI->OpS}:g9 A0 41 f=f fN:=rfl
theorem WJ:A0.ti 41=some fN:=rfl
theorem ty41_z:fN.size=1:=rfl
theorem ty41_d:fN.desc=.slice 50:=rfl
theorem pt41(cs:List AV)(o:Nat):partOf fN cs o=cs[o]?:=J9 rfl cs o
theorem el41:elemOfT A0 (.slice 50)=some u5:=rfl
theorem ln41(l:List TypeId)(x:AV)(r:List AV)(K:PK):I8 A0 .len (41::l) (x::r) K=xF x K:=rfl
theorem ap41(l:List TypeId)(s x:AV)(r:List AV)(K:PK):I8 A0 .append (41::41::l) (s::x::r) K=m7 u5 s x K:=rfl
theorem ix41(x:AV)(i:AV):Jg A0 fN x i=Qp u5 x i:=rfl
theorem ont43{f:TI->OpS}:g9 A0 43 f=f No:=rfl
theorem WK:A0.ti 43=some No:=rfl
theorem ty43_z:No.size=4:=rfl
theorem ty43_0:No.zero=.agg [(.int .i64 0),(.int .i64 0),(.int .i64 0),(.int .i64 0)]:=rfl
def EA(i:Nat):Option (Nat×Nat):=A7 (Wv [(3,0),(3,1),(3,2),(3,3)] i) fun f=>onTI A0 f.1 none fun g=>some (f.2,g.size)
theorem bd43(ps:List (Nat×AV)):X5 A0 No ps=GP (V3 EA ps No.zero.cells):=rfl
theorem pl43_0:EA 0=some (0,1):=rfl
theorem fq43_0(x:AV):N4 A0 No 0 x=C4 x 0:=rfl
theorem pl43_1:EA 1=some (1,1):=rfl
theorem fq43_1(x:AV):N4 A0 No 1 x=C4 x 1:=rfl
theorem fq43_2(x:AV):N4 A0 No 2 x=C4 x 2:=rfl
theorem fq43_3(x:AV):N4 A0 No 3 x=C4 x 3:=rfl
theorem pt43(cs:List AV)(o:Nat):partOf No cs o=if o+4<=cs.length then some (.agg ((cs.drop o).take 4))else none:=Z6 rfl cs o
theorem ont45{f:TI->OpS}:g9 A0 45 f=f Ed:=rfl
theorem EB:A0.ti 45=some Ed:=rfl
theorem ty45_z:Ed.size=5:=rfl
theorem ty45_b:Ed.bytes=56:=rfl
theorem ft45:flatT Ed=false:=rfl
theorem ty45_0:Ed.zero=.agg [.nilsl,(.int .i64 0),(.int .i64 0),(.int .i64 0),(.int .i64 0)]:=rfl
def EC(i:Nat):Option (Nat×Nat):=A7 (Wv [(41,0),(43,1)] i) fun f=>onTI A0 f.1 none fun g=>some (f.2,g.size)
theorem bd45(ps:List (Nat×AV)):X5 A0 Ed ps=GP (V3 EC ps Ed.zero.cells):=rfl
theorem pl45_0:EC 0=some (0,1):=rfl
theorem fq45_0(x:AV):N4 A0 Ed 0 x=C4 x 0:=rfl
theorem pl45_1:EC 1=some (1,4):=rfl
theorem fq45_1(x:AV):N4 A0 Ed 1 x=C4 x 1:=rfl
theorem pt45(cs:List AV)(o:Nat):partOf Ed cs o=if o+5<=cs.length then some (.agg ((cs.drop o).take 5))else none:=Z6 rfl cs o
theorem ont50{f:TI->OpS}:g9 A0 50 f=f u5:=rfl
theorem ED:A0.ti 50=some u5:=rfl
theorem ty50_z:u5.size=8:=rfl
theorem ty50_b:u5.bytes=88:=rfl
theorem ft50:flatT u5=false:=rfl
theorem ty50_0:u5.zero=.agg [(.int .i64 0),(.int .i64 0),(.int .i64 0),(.int .i64 0),(.int .i64 0),(.int .i64 0),(.str []),.nilsl]:=rfl
def kI(i:Nat):Option (Nat×Nat):=A7 (Wv [(3,0),(3,1),(3,2),(3,3),(3,4),(3,5),(9,6),(28,7)] i) fun f=>onTI A0 f.1 none fun g=>some (f.2,g.size)
theorem bd50(ps:List (Nat×AV)):X5 A0 u5 ps=GP (V3 kI ps u5.zero.cells):=rfl
theorem pl50_0:kI 0=some (0,1):=rfl
theorem fq50_0(x:AV):N4 A0 u5 0 x=C4 x 0:=rfl
theorem pl50_1:kI 1=some (1,1):=rfl
theorem fq50_1(x:AV):N4 A0 u5 1 x=C4 x 1:=rfl
theorem pl50_2:kI 2=some (2,1):=rfl
theorem fq50_2(x:AV):N4 A0 u5 2 x=C4 x 2:=rfl
theorem pl50_3:kI 3=some (3,1):=rfl
theorem fq50_3(x:AV):N4 A0 u5 3 x=C4 x 3:=rfl
theorem fq50_4(x:AV):N4 A0 u5 4 x=C4 x 4:=rfl
theorem pl50_5:kI 5=some (5,1):=rfl
theorem fq50_5(x:AV):N4 A0 u5 5 x=C4 x 5:=rfl
theorem pl50_6:kI 6=some (6,1):=rfl
theorem fq50_6(x:AV):N4 A0 u5 6 x=C4 x 6:=rfl
theorem fq50_7(x:AV):N4 A0 u5 7 x=C4 x 7:=rfl
theorem pt50(cs:List AV)(o:Nat):partOf u5 cs o=if o+8<=cs.length then some (.agg ((cs.drop o).take 8))else none:=Z6 rfl cs o
theorem ont59{f:TI->OpS}:g9 A0 59 f=f yH:=rfl
theorem ty59_z:yH.size=1:=rfl
theorem pt59(cs:List AV)(o:Nat):partOf yH cs o=cs[o]?:=J9 rfl cs o
theorem ont61{f:TI->OpS}:g9 A0 61 f=f uA:=rfl
theorem ty61_z:uA.size=1:=rfl
theorem ty61_0:uA.zero=.nilfn:=rfl
theorem pt61(cs:List AV)(o:Nat):partOf uA cs o=cs[o]?:=J9 rfl cs o
theorem ont67{f:TI->OpS}:g9 A0 67 f=f Ty:=rfl
theorem EE:A0.ti 67=some Ty:=rfl
theorem ty67_z:Ty.size=4:=rfl
theorem ty67_0:Ty.zero=.agg [(.str []),(.int .i64 0),(.int .i64 0),(.int .i64 0)]:=rfl
theorem fq67_1(x:AV):N4 A0 Ty 1 x=C4 x 1:=rfl
theorem fq67_2(x:AV):N4 A0 Ty 2 x=C4 x 2:=rfl
theorem pt67(cs:List AV)(o:Nat):partOf Ty cs o=if o+4<=cs.length then some (.agg ((cs.drop o).take 4))else none:=Z6 rfl cs o
theorem ont69{f:TI->OpS}:g9 A0 69 f=f bN:=rfl
theorem ty69_z:bN.size=7:=rfl
theorem ty69_0:bN.zero=.agg [.nilsl,.nilsl,(.str []),(.int .i64 0),(.int .i64 0),.nilsl,.nilsl]:=rfl
def EF(i:Nat):Option (Nat×Nat):=A7 (Wv [(25,0),(31,2)] i) fun f=>onTI A0 f.1 none fun g=>some (f.2,g.size)
theorem bd69(ps:List (Nat×AV)):X5 A0 bN ps=GP (V3 EF ps bN.zero.cells):=rfl
theorem pl69_0:EF 0=some (0,2):=rfl
theorem fq69_0(x:AV):N4 A0 bN 0 x=C4 x 0:=rfl
theorem pl69_1:EF 1=some (2,5):=rfl
theorem fq69_1(x:AV):N4 A0 bN 1 x=C4 x 2:=rfl
theorem pt69(cs:List AV)(o:Nat):partOf bN cs o=if o+7<=cs.length then some (.agg ((cs.drop o).take 7))else none:=Z6 rfl cs o
theorem ont101{f:TI->OpS}:g9 A0 101 f=f uB:=rfl
theorem ty101_d:uB.desc=.int .i8:=rfl
end
theorem z0z{a b:Prop}(x:a)(y:b):a/\b:=⟨x,y⟩
def XQ:=z0z @e_seq<|z0z @seqP_normal<|z0z @seqP_exit<|z0z @seqP_ret<|z0z @e_skip<|z0z @e_exit<|z0z @e_ret<|z0z @e_reg<|z0z @e_regD<|z0z @e_pre<|z0z @e_cond<|z0z @condP_true<|z0z @condP_false<|z0z @e_block<|z0z @blkP_normal<|z0z @blkP_exit<|z0z @blkP_ret<|z0z @e_post<|z0z @postP_normal<|z0z @postP_exit<|z0z @postP_ret<|z0z @callK_val<|z0z @doP_val<|z0z @doP_call<|z0z @e_nil<|z0z @e_op<|z0z @e_opS<|z0z @e_opY<|z0z @callD_val<|z0z @doD_val<|z0z @doD_call<|z0z @callQ_val<|z0z @doQ_call<|z0z @doQ_sep<|z0z @doS_val<|z0z @s_nil<|z0z @s_op<|z0z @s_ld<|z0z @cvs_nil<|z0z @cvs_cons<|z0z @cv_ptr<|z0z @e_nilD<|z0z @d_op<|z0z @d_opQ<|z0z @d_opS<|z0z @d_opY<|z0z @d_opYQ<|z0z @bodyP_ret<|z0z @bodyP_norm<|z0z @lk_hit<|z0z @lk_cons<|z0z @st_some<|z0z @st_none<|z0z @ov_tmp<|z0z @ov_int<|z0z @ov_bool<|z0z @ov_str<|z0z @ov_nsl<|z0z @ov_func<|z0z @ol_nil<|z0z @ol_cons<|z0z @oq_nil<|z0z @oq_cons<|z0z @oo_none<|z0z @oo_some<|z0z @en_nil<|z0z @en_cons<|z0z @one_1<|z0z @one_2<|z0z @one_0<|z0z @ofV_some<|z0z @ofO_some<|z0z @pr_move<|z0z @pr_assign<|z0z @pr_pick<|z0z @pick_true<|z0z @pick_false<|z0z @pr_alloc<|z0z @pr_box<|z0z @pr_build<|z0z @pr_buildSl<|z0z @pr_load<|z0z @pr_store<|z0z @pr_bin<|z0z @pr_un<|z0z @pr_conv<|z0z @pr_fn<|z0z @pr_slice<|z0z @pr_fa<|z0z @pr_ia<|z0z @pr_ex<|z0z @pr_bui<|z0z @pr_call<|z0z @pr_callv<|z0z @callP_fn<|z0z @bp_add<|z0z @bp_sub<|z0z @bp_eql<|z0z @bp_neq<|z0z @bp_lss<|z0z @bp_leq<|z0z @bp_gtr<|z0z @bp_geq<|z0z @bp_eqlS<|z0z @bp_neqS<|z0z @wt_true<|z0z @wt_false<|z0z @wt_skip<|z0z @ln_fsl<|z0z @ln_msl<|z0z @ln_nil<|z0z @ix_fsl<|z0z @ix_msl<|z0z @exP_tup<|z0z @ld_f<|z0z @ld_p<|z0z @ldR_some<|z0z @ldE_some<|z0z @tb_nil<|z0z @tb_eq<|z0z @tbE_row<|z0z @te_eq<|z0z @teE_flat<|z0z @teE_row<|z0z @te_fsl<|z0z @ap_eq<|z0z @ap1_some<|z0z @ap2_some<|z0z @cl_int<|z0z @cl_bool<|z0z @cl_str<|z0z @cl_own<|z0z @cl_msl<|z0z @ag_int<|z0z @ag_bool<|z0z @ag_agg<|z0z @cl_nsl<|z0z @ce_int<|z0z @ce_bool<|z0z @ce_str<|z0z @ce_agg<|z0z @ce_fsl<|z0z @ce_nsl<|z0z @ce_msl<|z0z @ce_own<|z0z @fl_nil<|z0z @fl_cons<|z0z @ro6<|z0z @rwE_row<|z0z @rwE_sub<|z0z @rwS_some<|z0z @rwC_some<|z0z @rwD_some<|z0z @ow_own<|z0z @rt_eq<|z0z @rtE_row<|z0z @rtE_sub<|z0z @ch_eq<|z0z @chE_row<|z0z @kp_eq<|z0z @kg_nil<|z0z @kg_row<|z0z @kg_dead<|z0z @kg_sub<|z0z @mf_nil<|z0z @mf_cons<|z0z @mo_nil<|z0z @mo_cons<|z0z @mp_1<|z0z @mp_2<|z0z @mk1_eq<|z0z @mk2_eq<|z0z @sm_eq<|z0z @smE_row<|z0z @smE_row1<|z0z @smE_sub<|z0z @mi_eq<|z0z @rs_nil<|z0z @rs_cons<|z0z @rg_0<|z0z @rg_2<|z0z @rp_nil<|z0z @rp_cons<|z0z @po_cons<|z0z @rv_int<|z0z @rv_bool<|z0z @rv_str<|z0z @rv_agg<|z0z @rv_fsl<|z0z @rv_msl<|z0z @rv_ptr<|z0z @rv_nsl<|z0z @rv_fn<|z0z @rl_nil<|z0z @rl_cons<|z0z @rnM_some<|z0z @rnP_some<|z0z @et_eq<|z0z @enE_some<|z0z @rp_row<|z0z @rp_row1<|z0z @rp_sub<|z0z @rnS_some<|z0z @rf_int<|z0z @rf_bool<|z0z @rf_str<|z0z @rf_agg<|z0z @rf_fsl<|z0z @rf_msl<|z0z @rf_ptr<|z0z @rf_nsl<|z0z @rf_fn<|z0z @rfl_nil<|z0z @rfl_cons<|z0z @bk_nil<|z0z @bk_cons<|z0z @bv_eq<|z0z @bs_nil<|z0z @bs_cons<|z0z @bc_msl<|z0z @bc_int<|z0z @bc_str<|z0z @lv_agg<|z0z @lv_msl<|z0z @lv_int<|z0z @lv_bool<|z0z @lv_str<|z0z @lv_fsl<|z0z @lv_own<|z0z @lv_nsl<|z0z @hd_cons<|z0z @os_nil<|z0z @os_cons<|z0z @ot_nil<|z0z @ot_own<|z0z @ot_int<|z0z @ot_bool<|z0z @ot_str<|z0z @va_nil<|z0z @va_cons<|z0z @co_some<|z0z @vv_int<|z0z @vv_bool<|z0z @wv_int<|z0z @wv_str<|z0z @agO_some<|z0z @vv_agg<|z0z @vl_nil<|z0z @vl_cons<|z0z @fsO_some<|z0z @vv_msl<|z0z @wv_msl<|z0z @vmE_some<|z0z @fz_nil<|z0z @fz_cons<|z0z @fz_int<|z0z @fz_bool<|z0z @fz_str<|z0z @fz_agg<|z0z @fz_own<|z0z @fz_nsl<|z0z @nf_int<|z0z @nf_bool<|z0z @nf_str<|z0z @nf_agg<|z0z @nf_own<|z0z @nfl_nil<|z0z @nfl_cons<|z0z @or_nil<|z0z @or_cons<|z0z @on_int<|z0z @on_bool<|z0z @on_str<|z0z @ok_int<|z0z @ok_bool<|z0z @ok_str<|z0z @ok_msl<|z0z @ok_fn<|z0z @nr_eq<|z0z @bx_eq<|z0z @wc_agg<|z0z @wc_int<|z0z @wc_bool<|z0z @wc_nsl<|z0z @wc_msl<|z0z @ra_eq<|z0z @raE_0<|z0z @raE_1<|z0z @raE_sub<|z0z @sr_eq<|z0z @srE_row<|z0z @srE_sub<|z0z @srS_some<|z0z @srC_some<|z0z @srD_some<|z0z @spR_some<|z0z @spE_some<|z0z @spB_true<|z0z @spB_false<|z0z @spC_true<|z0z @spC_false<|z0z @spO_some<|z0z @spQ_some<|z0z @spS_some<|z0z @rl_1<|z0z @sc_nil<|z0z @sc_clo<|z0z @sc_msl<|z0z @scM_row<|z0z @scK_some<|z0z @rsT_some<|z0z @rsC_val<|z0z @rsO_some<|z0z @rs_0<|z0z @rs_tmp<|z0z @rs_cell<|z0z @ok_fslN<|z0z @cl_fslN<|z0z @ce_fslN<|z0z @rf_fslN<|z0z @rv_fslN<|z0z @fz_fslN<|z0z @vv_fslN<|z0z @wv_fslN<|z0z @ln_fslN<|z0z @ix_fslN<|z0z @lv_fslN<|z0z @te_fslN<|z0z @pf_f<|z0z @pf_p<|z0z @ldW_eq<|z0z @oc_nil<|z0z @oc_own<|z0z @oc_int<|z0z @oc_bool<|z0z @oc_str<|z0z @oc_fsl<|z0z @oc_fslN<|z0z @oc_msl<|z0z @oc_nsl<|z0z @oc_fn<|z0z @lv_fn<|z0z @ce_fn<|z0z @bs_eq<|z0z @bsE_some<|z0z @pl_nil<|z0z @pl_cons<|z0z @plE_some<|z0z @rl_0<|z0z @rl_2<|z0z @rl_5<|z0z @rl_7<|z0z @rl_8<|z0z @tk_all<|z0z @fp_ok<|z0z @fbK_some<|z0z @fb_nil<|z0z @fbP_some<|z0z @fb_cons<|z0z @agM_some<|z0z @inpK_val<|z0z @wp_eq<|z0z @wpE_some<|z0z @ap2_nil<|z0z @ro5<|z0z @fl_none<|z0z @rtQ_eq<|z0z @rtQ_row<|z0z @Option.map_some.{0,0}<|z0z @List.take_succ_cons.{0}<|z0z @List.take_zero.{0}<|z0z @List.drop_succ_cons.{0}<|z0z @List.drop_zero.{0}<|z0z @Option.map_none.{0,0}<|z0z @List.all_cons.{0}<|z0z @List.all_nil.{0}<|z0z @List.isEmpty_cons.{0}<|z0z @List.isEmpty_nil.{0}<|z0z @List.mem_cons.{0}<|z0z @List.not_mem_nil.{0}<|z0z @or_false<|z0z @false_or<|z0z @or_true<|z0z @true_or<|z0z @not_false_eq_true<|z0z @not_true_eq_false<|z0z @and_true<|z0z @true_and<|z0z @and_self<|z0z @Bool.and_self<|z0z @Bool.and_true<|z0z @Bool.true_and<|z0z @List.set_cons_zero.{0}<|z0z @List.set_cons_succ.{0}<|z0z @List.flatMap_cons.{0,0}<|z0z @List.flatMap_nil.{0,0}<|z0z @List.filter_cons.{0}<|z0z @List.filter_nil.{0}<|z0z @eq_self.{1}<|z0z @List.nodup_cons.{0}<|z0z @List.nodup_nil.{0}<|z0z @Option.isSome_some.{0}<|z0z @Option.isSome_none.{0}<|z0z @Bool.or_true<|z0z @Bool.or_false<|z0z @Bool.true_or<|z0z @Bool.false_or<|z0z @Nat.le_refl<|z0z @Nat.lt_irrefl<|z0z @Nat.not_lt_zero<|z0z @Nat.zero_le<|z0z @decide_eq_true_eq<|z0z @ne_eq.{1}<|z0z @List.cons_append.{0}<|z0z @List.nil_append.{0}<|z0z @List.append_nil.{0}<|z0z @List.length_cons.{0}<|z0z @List.length_nil.{0}<|z0z @List.getElem?_cons_zero.{0}<|z0z @List.getElem?_cons_succ.{0}<|z0z @List.getElem?_nil.{0}<|z0z @Nat.add_zero<|z0z @Bool.not_true<|z0z @Bool.not_false<|z0z @decide_true<|z0z @decide_false<|z0z @Option.some.injEq.{0}<|z0z @Bool.true_eq_false<|z0z @Bool.false_eq_true<|z0z @u_not<|z0z @Option.isNone_some.{0}<|z0z @Option.isNone_none.{0}<|z0z @Bool.and_false<|z0z @Bool.false_and<|z0z @cond_false.{1}<|z0z @cond_true.{1}<|z0z @ont3<|z0z @ty3_z<|z0z @ty3_b<|z0z @ty3_d<|z0z @ft3<|z0z @ty3_0<|z0z @pt3<|z0z @ont4<|z0z @ty4_z<|z0z @ty4_b<|z0z @ty4_0<|z0z @pt4<|z0z @ont9<|z0z @pt9<|z0z @ont21<|z0z @ty21_d<|z0z @ont22<|z0z @pt22<|z0z @ln22<|z0z @ix22<|z0z @ont23<|z0z @pt23<|z0z @ln23<|z0z @ix23<|z0z @ont25<|z0z @ty25_z<|z0z @fq25_0<|z0z @fq25_1<|z0z @pt25<|z0z @ont28<|z0z @ty28_z<|z0z @ty28_d<|z0z @pt28<|z0z @el28<|z0z @ln28<|z0z @ap28<|z0z @ix28<|z0z @ont29<|z0z @ty29_z<|z0z @ty29_d<|z0z @pt29<|z0z @el29<|z0z @ln29<|z0z @ap29<|z0z @ix29<|z0z @ont31<|z0z @ty31_z<|z0z @ty31_0<|z0z @bd31<|z0z @pl31_0<|z0z @fq31_0<|z0z @pl31_1<|z0z @fq31_1<|z0z @fq31_2<|z0z @pl31_3<|z0z @fq31_3<|z0z @pl31_4<|z0z @fq31_4<|z0z @pt31<|z0z @ont33<|z0z @ty33_z<|z0z @ty33_d<|z0z @ty33_0<|z0z @pt33<|z0z @el33<|z0z @ln33<|z0z @ap33<|z0z @ix33<|z0z @ont39<|z0z @ty39_z<|z0z @ty39_b<|z0z @ty39_d<|z0z @ft39<|z0z @ty39_0<|z0z @pt39<|z0z @el39<|z0z @ln39<|z0z @ap39<|z0z @ix39<|z0z @ont41<|z0z @ty41_z<|z0z @ty41_d<|z0z @pt41<|z0z @el41<|z0z @ln41<|z0z @ap41<|z0z @ix41<|z0z @ont43<|z0z @ty43_z<|z0z @ty43_0<|z0z @bd43<|z0z @pl43_0<|z0z @fq43_0<|z0z @pl43_1<|z0z @fq43_1<|z0z @fq43_2<|z0z @fq43_3<|z0z @pt43<|z0z @ont45<|z0z @ty45_z<|z0z @ty45_b<|z0z @ft45<|z0z @ty45_0<|z0z @bd45<|z0z @pl45_0<|z0z @fq45_0<|z0z @pl45_1<|z0z @fq45_1<|z0z @pt45<|z0z @ont50<|z0z @ty50_z<|z0z @ty50_b<|z0z @ft50<|z0z @ty50_0<|z0z @bd50<|z0z @pl50_0<|z0z @fq50_0<|z0z @pl50_1<|z0z @fq50_1<|z0z @pl50_2<|z0z @fq50_2<|z0z @pl50_3<|z0z @fq50_3<|z0z @fq50_4<|z0z @pl50_5<|z0z @fq50_5<|z0z @pl50_6<|z0z @fq50_6<|z0z @fq50_7<|z0z @pt50<|z0z @ont59<|z0z @ty59_z<|z0z @pt59<|z0z @ont61<|z0z @ty61_z<|z0z @ty61_0<|z0z @pt61<|z0z @ont67<|z0z @ty67_z<|z0z @ty67_0<|z0z @fq67_1<|z0z @fq67_2<|z0z @pt67<|z0z @ont69<|z0z @ty69_z<|z0z @ty69_0<|z0z @bd69<|z0z @pl69_0<|z0z @fq69_0<|z0z @pl69_1<|z0z @fq69_1<|z0z @pt69<|z0z @ont101<|z0z @ty101_d<|z0z @xo_eq<|z0z @xm_eq<|z0z @xg_eq<|z0z @tm_eq<|z0z @ki_eq<|z0z @cl_eq<|z0z @xa_eq<|z0z @xl_eq<|z0z @xf_eq<|z0z @xi_eq<|z0z @xn_eq<|z0z @xs_eq<|z0z @xb_eq<|z0z @gl_eq<|z0z @gf_eq<|z0z @R_eq<|z0z @qs_eq<|z0z @kf_eq<|@kt_eq
def XP:=And.intro XQ (And.intro @sp_eq Nat.zero_add)
end Go.Proofs.AmEnv
