/- The tables of this program's types and functions, facts on them, and the rules. Conditions: none. -/
import Derived.Test.YtnglooakgahhhaaCode
set_option linter.unusedVariables false
set_option linter.unusedSimpArgs false
set_option linter.unusedSectionVars false
set_option linter.defProp false
set_option maxRecDepth 100000
set_option maxHeartbeats 4000000
open Option renaming some→zs,none→zn
open Bool renaming true→zt,false→zf
namespace Go.Proofs.AmEnv
abbrev C2{α:Type}(t m:Nat)(a b:α):α:=bif Nat.blt t m then a else b
abbrev C0{α:Type}(t m:Nat)(a:α):Option α:=bif Nat.beq t m then zs a else zn
open Go.AM
noncomputable def ty2:TI:=⟨.int .i64,1,8,.int .i64 0⟩
noncomputable def ty3:TI:=⟨.int .i64,1,8,.int .i64 0⟩
noncomputable def ty4:TI:=⟨.bool,1,1,.bool zf⟩
noncomputable def JT:TI:=⟨.string,1,16,.str []⟩
noncomputable def YE:TI:=⟨.iface,1,16,.niliface⟩
noncomputable def DS:TI:=⟨.int .i32,1,4,.int .i32 0⟩
noncomputable def pE:TI:=⟨.slice 59,1,24,.nilsl⟩
noncomputable def pF:TI:=⟨.slice 38,1,24,.nilsl⟩
noncomputable def eD:TI:=⟨.struct [(22,0),(23,1)] zf,2,48,.agg [.nilsl,.nilsl]⟩
noncomputable def Ca:TI:=⟨.slice 3,1,24,.nilsl⟩
noncomputable def aE:TI:=⟨.struct [(26,0),(3,1),(3,2)] zf,3,40,.agg [.nilsl,(.int .i64 0),(.int .i64 0)]⟩
noncomputable def YF:TI:=⟨.func,1,8,.nilfn⟩
noncomputable def pG:TI:=⟨.slice 43,1,24,.nilsl⟩
noncomputable def YG:TI:=⟨.struct [(9,0),(3,1),(3,2),(26,3),(36,4)] zf,5,80,.agg [(.str []),(.int .i64 0),(.int .i64 0),.nilsl,.nilsl]⟩
noncomputable def Dw:TI:=⟨.struct [(9,0),(3,1),(3,2),(26,3),(36,4)] zf,5,80,.agg [(.str []),(.int .i64 0),(.int .i64 0),.nilsl,.nilsl]⟩
noncomputable def pH:TI:=⟨.slice 65,1,24,.nilsl⟩
noncomputable def Ss:TI:=⟨.struct [(3,0),(3,1),(3,2),(3,3)] zt,4,32,.agg [(.int .i64 0),(.int .i64 0),(.int .i64 0),(.int .i64 0)]⟩
noncomputable def YH:TI:=⟨.struct [(39,0),(41,1)] zf,5,56,.agg [.nilsl,(.int .i64 0),(.int .i64 0),(.int .i64 0),(.int .i64 0)]⟩
noncomputable def Vt:TI:=⟨.struct [(39,0),(41,1)] zf,5,56,.agg [.nilsl,(.int .i64 0),(.int .i64 0),(.int .i64 0),(.int .i64 0)]⟩
noncomputable def YI:TI:=⟨.int .i64,1,8,.int .i64 0⟩
noncomputable def YJ:TI:=⟨.func,1,8,.nilfn⟩
noncomputable def YK:TI:=⟨.func,1,8,.nilfn⟩
noncomputable def pI:TI:=⟨.slice 26,1,24,.nilsl⟩
noncomputable def xN:TI:=⟨.slice 26,1,24,.nilsl⟩
noncomputable def tH:TI:=⟨.ptr 57,1,8,.nilptr⟩
noncomputable def Pk:TI:=⟨.struct [(25,0),(26,2),(3,3),(50,4),(32,5),(3,8)] zf,9,152,.agg [.nilsl,.nilsl,.nilsl,(.int .i64 0),.nilsl,.nilsl,(.int .i64 0),(.int .i64 0),(.int .i64 0)]⟩
noncomputable def Pl:TI:=⟨.struct [(9,0),(3,1),(3,2),(3,3)] zt,4,40,.agg [(.str []),(.int .i64 0),(.int .i64 0),(.int .i64 0)]⟩
noncomputable def YL:TI:=⟨.struct [(3,0),(3,1)] zt,2,16,.agg [(.int .i64 0),(.int .i64 0)]⟩
noncomputable def eE:TI:=⟨.struct [(3,0),(3,1)] zt,2,16,.agg [(.int .i64 0),(.int .i64 0)]⟩
noncomputable def YM:TI:=⟨.func,1,8,.nilfn⟩
noncomputable def Hv:TI:=⟨.struct [(3,0),(3,1),(3,2),(3,3),(3,4),(3,5),(9,6),(26,7)] zf,8,88,.agg [(.int .i64 0),(.int .i64 0),(.int .i64 0),(.int .i64 0),(.int .i64 0),(.int .i64 0),(.str []),.nilsl]⟩
noncomputable def YN:TI:=⟨.func,1,8,.nilfn⟩
noncomputable def aF:TI:=⟨.struct [(25,0),(38,2)] zf,7,128,.agg [.nilsl,.nilsl,(.str []),(.int .i64 0),(.int .i64 0),.nilsl,.nilsl]⟩
noncomputable def YO:TI:=⟨.slice 4,1,24,.nilsl⟩
noncomputable def YQ:TI:=⟨.ptr 65,1,8,.nilptr⟩
noncomputable def YR:TI:=⟨.func,1,8,.nilfn⟩
noncomputable def YS:TI:=⟨.ptr 3,1,8,.nilptr⟩
noncomputable def YT:TI:=⟨.func,1,8,.nilfn⟩
noncomputable def YU:TI:=⟨.func,1,8,.nilfn⟩
noncomputable def JU:TI:=⟨.func,1,8,.nilfn⟩
noncomputable def JV:TI:=⟨.func,1,8,.nilfn⟩
noncomputable def tI:TI:=⟨.int .i8,1,1,.int .i8 0⟩
noncomputable def JW:TI:=⟨.func,1,8,.nilfn⟩
noncomputable def JX:TI:=⟨.func,1,8,.nilfn⟩
noncomputable def JY:TI:=⟨.func,1,8,.nilfn⟩
noncomputable def tJ:TI:=⟨.int .u64,1,8,.int .u64 0⟩
noncomputable def JZ:TI:=⟨.func,1,8,.nilfn⟩
noncomputable def ti(t:Nat):Option TI:=
 C2 t 51 (C2 t 33 (C2 t 21 (C2 t 4 (C2 t 3 (C0 t 2 ty2) (C0 t 3 ty3)) (C2 t 9 (C0 t 4 ty4) (C2 t 20 (C0 t 9 JT) (C0 t 20 YE)))) (C2 t 25 (C2 t 22 (C0 t 21 DS) (C2 t 23 (C0 t 22 pE) (C0 t 23 pF))) (C2 t 26 (C0 t 25 eD) (C2 t 32 (C0 t 26 Ca) (C0 t 32 aE))))) (C2 t 42 (C2 t 38 (C2 t 36 (C0 t 33 YF) (C2 t 37 (C0 t 36 pG) (C0 t 37 YG))) (C2 t 39 (C0 t 38 Dw) (C2 t 41 (C0 t 39 pH) (C0 t 41 Ss)))) (C2 t 45 (C2 t 43 (C0 t 42 YH) (C2 t 44 (C0 t 43 Vt) (C0 t 44 YI))) (C2 t 47 (C0 t 45 YJ) (C2 t 50 (C0 t 47 YK) (C0 t 50 pI)))))) (C2 t 80 (C2 t 62 (C2 t 59 (C2 t 55 (C0 t 51 xN) (C2 t 57 (C0 t 55 tH) (C0 t 57 Pk))) (C2 t 60 (C0 t 59 Pl) (C2 t 61 (C0 t 60 YL) (C0 t 61 eE)))) (C2 t 68 (C2 t 65 (C0 t 62 YM) (C2 t 66 (C0 t 65 Hv) (C0 t 66 YN))) (C2 t 72 (C0 t 68 aF) (C2 t 78 (C0 t 72 YO) (C0 t 78 YQ))))) (C2 t 104 (C2 t 99 (C2 t 94 (C0 t 80 YR) (C2 t 97 (C0 t 94 YS) (C0 t 97 YT))) (C2 t 102 (C0 t 99 YU) (C2 t 103 (C0 t 102 JU) (C0 t 103 JV)))) (C2 t 110 (C2 t 105 (C0 t 104 tI) (C2 t 109 (C0 t 105 JW) (C0 t 109 JX))) (C2 t 122 (C0 t 110 JY) (C2 t 124 (C0 t 122 tJ) (C0 t 124 JZ))))))
noncomputable def fn(f:Nat):Option FI:=
 C2 f 38 (C2 f 20 (C2 f 11 (C2 f 7 (C2 f 5 (C2 f 4 (C0 f 3 fi3) (C0 f 4 fi4)) (C2 f 6 (C0 f 5 fi5) (C0 f 6 fi6))) (C2 f 9 (C2 f 8 (C0 f 7 fi7) (C0 f 8 fi8)) (C2 f 10 (C0 f 9 fi9) (C0 f 10 SN)))) (C2 f 15 (C2 f 13 (C2 f 12 (C0 f 11 SP) (C0 f 12 SR)) (C2 f 14 (C0 f 13 ST) (C0 f 14 SV))) (C2 f 17 (C2 f 16 (C0 f 15 SX) (C0 f 16 TA)) (C2 f 18 (C0 f 17 TF) (C2 f 19 (C0 f 18 TH) (C0 f 19 TK)))))) (C2 f 29 (C2 f 24 (C2 f 22 (C2 f 21 (C0 f 20 TM) (C0 f 21 TO)) (C2 f 23 (C0 f 22 TQ) (C0 f 23 TS))) (C2 f 26 (C2 f 25 (C0 f 24 TU) (C0 f 25 TW)) (C2 f 27 (C0 f 26 TY) (C2 f 28 (C0 f 27 UA) (C0 f 28 UC))))) (C2 f 33 (C2 f 31 (C2 f 30 (C0 f 29 UE) (C0 f 30 UG)) (C2 f 32 (C0 f 31 UI) (C0 f 32 UK))) (C2 f 35 (C2 f 34 (C0 f 33 UM) (C0 f 34 UO)) (C2 f 36 (C0 f 35 UQ) (C2 f 37 (C0 f 36 US) (C0 f 37 UU))))))) (C2 f 55 (C2 f 46 (C2 f 42 (C2 f 40 (C2 f 39 (C0 f 38 UW) (C0 f 39 UY)) (C2 f 41 (C0 f 40 VA) (C0 f 41 VC))) (C2 f 44 (C2 f 43 (C0 f 42 VE) (C0 f 43 VI)) (C2 f 45 (C0 f 44 VM) (C0 f 45 VS)))) (C2 f 50 (C2 f 48 (C2 f 47 (C0 f 46 VU) (C0 f 47 VX)) (C2 f 49 (C0 f 48 VZ) (C0 f 49 WB))) (C2 f 52 (C2 f 51 (C0 f 50 WD) (C0 f 51 WG)) (C2 f 53 (C0 f 52 WI) (C2 f 54 (C0 f 53 WK) (C0 f 54 WM)))))) (C2 f 65 (C2 f 60 (C2 f 58 (C2 f 56 (C0 f 55 WO) (C0 f 56 WQ)) (C2 f 59 (C0 f 58 WS) (C0 f 59 WU))) (C2 f 62 (C2 f 61 (C0 f 60 WW) (C0 f 61 WY)) (C2 f 63 (C0 f 62 XA) (C2 f 64 (C0 f 63 XD) (C0 f 64 XF))))) (C2 f 69 (C2 f 67 (C2 f 66 (C0 f 65 XH) (C0 f 66 XJ)) (C2 f 68 (C0 f 67 XL) (C0 f 68 XN))) (C2 f 72 (C2 f 71 (C0 f 69 XR) (C0 f 71 XT)) (C2 f 73 (C0 f 72 XV) (C2 f 74 (C0 f 73 XX) (C0 f 74 XZ)))))))
noncomputable def env:Env:=⟨ti,fn,fun _=>zn,fun f=>Nat.beq f 57,zs 0,fun _=>zf,fun _=>zn,fun _ _=>zf⟩
noncomputable section
def A1(f:Nat):Option PFn:=C2 f 38 (C2 f 20 (C2 f 11 (C2 f 7 (C2 f 5 (C2 f 4 (C0 f 3 pf3) (C0 f 4 pf4)) (C2 f 6 (C0 f 5 pf5) (C0 f 6 pf6))) (C2 f 9 (C2 f 8 (C0 f 7 pf7) (C0 f 8 pf8)) (C2 f 10 (C0 f 9 pf9) (C0 f 10 SO)))) (C2 f 15 (C2 f 13 (C2 f 12 (C0 f 11 SQ) (C0 f 12 SS)) (C2 f 14 (C0 f 13 SU) (C0 f 14 SW))) (C2 f 17 (C2 f 16 (C0 f 15 SZ) (C0 f 16 TB)) (C2 f 18 (C0 f 17 TG) (C2 f 19 (C0 f 18 TJ) (C0 f 19 TL)))))) (C2 f 29 (C2 f 24 (C2 f 22 (C2 f 21 (C0 f 20 TN) (C0 f 21 TP)) (C2 f 23 (C0 f 22 TR) (C0 f 23 TT))) (C2 f 26 (C2 f 25 (C0 f 24 TV) (C0 f 25 TX)) (C2 f 27 (C0 f 26 TZ) (C2 f 28 (C0 f 27 UB) (C0 f 28 UD))))) (C2 f 33 (C2 f 31 (C2 f 30 (C0 f 29 UF) (C0 f 30 UH)) (C2 f 32 (C0 f 31 UJ) (C0 f 32 UL))) (C2 f 35 (C2 f 34 (C0 f 33 UN) (C0 f 34 UP)) (C2 f 36 (C0 f 35 UR) (C2 f 37 (C0 f 36 UT) (C0 f 37 UV))))))) (C2 f 55 (C2 f 46 (C2 f 42 (C2 f 40 (C2 f 39 (C0 f 38 UX) (C0 f 39 UZ)) (C2 f 41 (C0 f 40 VB) (C0 f 41 VD))) (C2 f 44 (C2 f 43 (C0 f 42 VF) (C0 f 43 VK)) (C2 f 45 (C0 f 44 VP) (C0 f 45 VT)))) (C2 f 50 (C2 f 48 (C2 f 47 (C0 f 46 VW) (C0 f 47 VY)) (C2 f 49 (C0 f 48 WA) (C0 f 49 WC))) (C2 f 52 (C2 f 51 (C0 f 50 WE) (C0 f 51 WH)) (C2 f 53 (C0 f 52 WJ) (C2 f 54 (C0 f 53 WL) (C0 f 54 WN)))))) (C2 f 65 (C2 f 60 (C2 f 58 (C2 f 56 (C0 f 55 WP) (C0 f 56 WR)) (C2 f 59 (C0 f 58 WT) (C0 f 59 WV))) (C2 f 62 (C2 f 61 (C0 f 60 WX) (C0 f 61 WZ)) (C2 f 63 (C0 f 62 XB) (C2 f 64 (C0 f 63 XE) (C0 f 64 XG))))) (C2 f 69 (C2 f 67 (C2 f 66 (C0 f 65 XI) (C0 f 66 XK)) (C2 f 68 (C0 f 67 XM) (C0 f 68 XO))) (C2 f 72 (C2 f 71 (C0 f 69 XS) (C0 f 71 XU)) (C2 f 73 (C0 f 72 XW) (C2 f 74 (C0 f 73 XY) (C0 f 74 YA)))))))
end
end Go.Proofs.AmEnv
set_option maxRecDepth 100000
set_option linter.unusedVariables false
namespace Go.Proofs.AmEnv
open Go Go.AM
noncomputable section
theorem ont2{f:TI->OpS}:j4 env 2 f=f ty2:=rfl
theorem ont3{f:TI->OpS}:j4 env 3 f=f ty3:=rfl
theorem ti3:env.ti 3=zs ty3:=rfl
theorem ty3_z:ty3.size=1:=rfl
theorem ty3_b:ty3.bytes=8:=rfl
theorem ty3_d:ty3.desc=.int .i64:=rfl
theorem ft3:flatT ty3=zt:=rfl
theorem ty3_0:ty3.zero=.int .i64 0:=rfl
theorem pt3(cs:List AV)(o:Nat):partOf ty3 cs o=cs[o]?:=Q8 rfl cs o
theorem ont9{f:TI->OpS}:j4 env 9 f=f JT:=rfl
theorem ti9:env.ti 9=zs JT:=rfl
theorem pt9(cs:List AV)(o:Nat):partOf JT cs o=cs[o]?:=Q8 rfl cs o
theorem ont21{f:TI->OpS}:j4 env 21 f=f DS:=rfl
theorem ty21_d:DS.desc=.int .i32:=rfl
theorem ont22{f:TI->OpS}:j4 env 22 f=f pE:=rfl
theorem YV:env.ti 22=zs pE:=rfl
theorem pt22(cs:List AV)(o:Nat):partOf pE cs o=cs[o]?:=Q8 rfl cs o
theorem ln22(l:List TypeId)(x:AV)(r:List AV)(K:PK):E9 env .len (22::l) (x::r) K=wV x K:=rfl
theorem ix22(x:AV)(i:AV):Ir env pE x i=Vd Pl x i:=rfl
theorem ont23{f:TI->OpS}:j4 env 23 f=f pF:=rfl
theorem YW:env.ti 23=zs pF:=rfl
theorem pt23(cs:List AV)(o:Nat):partOf pF cs o=cs[o]?:=Q8 rfl cs o
theorem ln23(l:List TypeId)(x:AV)(r:List AV)(K:PK):E9 env .len (23::l) (x::r) K=wV x K:=rfl
theorem ix23(x:AV)(i:AV):Ir env pF x i=Vd Dw x i:=rfl
theorem ont25{f:TI->OpS}:j4 env 25 f=f eD:=rfl
theorem YX:env.ti 25=zs eD:=rfl
theorem ty25_z:eD.size=2:=rfl
theorem fq25_0(x:AV):F6 env eD 0 x=B0 x 0:=rfl
theorem fq25_1(x:AV):F6 env eD 1 x=B0 x 1:=rfl
theorem pt25(cs:List AV)(o:Nat):partOf eD cs o=if o+2<=cs.length then zs (.agg ((cs.drop o).take 2))else zn:=b9 rfl cs o
theorem ont26{f:TI->OpS}:j4 env 26 f=f Ca:=rfl
theorem YY:env.ti 26=zs Ca:=rfl
theorem ty26_z:Ca.size=1:=rfl
theorem ty26_b:Ca.bytes=24:=rfl
theorem ty26_d:Ca.desc=.slice 3:=rfl
theorem ft26:flatT Ca=zf:=rfl
theorem ty26_0:Ca.zero=.nilsl:=rfl
theorem pt26(cs:List AV)(o:Nat):partOf Ca cs o=cs[o]?:=Q8 rfl cs o
theorem el26:elemOfT env (.slice 3)=zs ty3:=rfl
theorem ln26(l:List TypeId)(x:AV)(r:List AV)(K:PK):E9 env .len (26::l) (x::r) K=wV x K:=rfl
theorem ap26(l:List TypeId)(s x:AV)(r:List AV)(K:PK):E9 env .append (26::26::l) (s::x::r) K=Bk ty3 s x K:=rfl
theorem ix26(x:AV)(i:AV):Ir env Ca x i=Vd ty3 x i:=rfl
theorem ont32{f:TI->OpS}:j4 env 32 f=f aE:=rfl
theorem ty32_z:aE.size=3:=rfl
theorem ty32_0:aE.zero=.agg [.nilsl,(.int .i64 0),(.int .i64 0)]:=rfl
def xO(i:Nat):Option (Nat×Nat):=A4 (Yv [(26,0),(3,1),(3,2)] i) fun f=>onTI env f.1 zn fun g=>zs (f.2,g.size)
theorem bd32(ps:List (Nat×AV)):f8 env aE ps=PA (X0 xO ps aE.zero.cells):=rfl
theorem pl32_0:xO 0=zs (0,1):=rfl
theorem fq32_0(x:AV):F6 env aE 0 x=B0 x 0:=rfl
theorem pl32_1:xO 1=zs (1,1):=rfl
theorem fq32_1(x:AV):F6 env aE 1 x=B0 x 1:=rfl
theorem pl32_2:xO 2=zs (2,1):=rfl
theorem fq32_2(x:AV):F6 env aE 2 x=B0 x 2:=rfl
theorem ont36{f:TI->OpS}:j4 env 36 f=f pG:=rfl
theorem YZ:env.ti 36=zs pG:=rfl
theorem pt36(cs:List AV)(o:Nat):partOf pG cs o=cs[o]?:=Q8 rfl cs o
theorem ln36(l:List TypeId)(x:AV)(r:List AV)(K:PK):E9 env .len (36::l) (x::r) K=wV x K:=rfl
theorem ix36(x:AV)(i:AV):Ir env pG x i=Vd Vt x i:=rfl
theorem ont38{f:TI->OpS}:j4 env 38 f=f Dw:=rfl
theorem DT:env.ti 38=zs Dw:=rfl
theorem ty38_z:Dw.size=5:=rfl
theorem ty38_0:Dw.zero=.agg [(.str []),(.int .i64 0),(.int .i64 0),.nilsl,.nilsl]:=rfl
theorem fq38_0(x:AV):F6 env Dw 0 x=B0 x 0:=rfl
theorem fq38_1(x:AV):F6 env Dw 1 x=B0 x 1:=rfl
theorem fq38_2(x:AV):F6 env Dw 2 x=B0 x 2:=rfl
theorem fq38_3(x:AV):F6 env Dw 3 x=B0 x 3:=rfl
theorem fq38_4(x:AV):F6 env Dw 4 x=B0 x 4:=rfl
theorem pt38(cs:List AV)(o:Nat):partOf Dw cs o=if o+5<=cs.length then zs (.agg ((cs.drop o).take 5))else zn:=b9 rfl cs o
theorem ont39{f:TI->OpS}:j4 env 39 f=f pH:=rfl
theorem ZA:env.ti 39=zs pH:=rfl
theorem pt39(cs:List AV)(o:Nat):partOf pH cs o=cs[o]?:=Q8 rfl cs o
theorem ln39(l:List TypeId)(x:AV)(r:List AV)(K:PK):E9 env .len (39::l) (x::r) K=wV x K:=rfl
theorem ix39(x:AV)(i:AV):Ir env pH x i=Vd Hv x i:=rfl
theorem ont41{f:TI->OpS}:j4 env 41 f=f Ss:=rfl
theorem ZB:env.ti 41=zs Ss:=rfl
theorem ty41_z:Ss.size=4:=rfl
theorem ty41_0:Ss.zero=.agg [(.int .i64 0),(.int .i64 0),(.int .i64 0),(.int .i64 0)]:=rfl
theorem fq41_0(x:AV):F6 env Ss 0 x=B0 x 0:=rfl
theorem fq41_1(x:AV):F6 env Ss 1 x=B0 x 1:=rfl
theorem fq41_2(x:AV):F6 env Ss 2 x=B0 x 2:=rfl
theorem fq41_3(x:AV):F6 env Ss 3 x=B0 x 3:=rfl
theorem pt41(cs:List AV)(o:Nat):partOf Ss cs o=if o+4<=cs.length then zs (.agg ((cs.drop o).take 4))else zn:=b9 rfl cs o
theorem ont43{f:TI->OpS}:j4 env 43 f=f Vt:=rfl
theorem DU:env.ti 43=zs Vt:=rfl
theorem ty43_z:Vt.size=5:=rfl
theorem ty43_0:Vt.zero=.agg [.nilsl,(.int .i64 0),(.int .i64 0),(.int .i64 0),(.int .i64 0)]:=rfl
theorem fq43_0(x:AV):F6 env Vt 0 x=B0 x 0:=rfl
theorem fq43_1(x:AV):F6 env Vt 1 x=B0 x 1:=rfl
theorem pt43(cs:List AV)(o:Nat):partOf Vt cs o=if o+5<=cs.length then zs (.agg ((cs.drop o).take 5))else zn:=b9 rfl cs o
theorem ont50{f:TI->OpS}:j4 env 50 f=f pI:=rfl
theorem ty50_z:pI.size=1:=rfl
theorem ty50_d:pI.desc=.slice 26:=rfl
theorem pt50(cs:List AV)(o:Nat):partOf pI cs o=cs[o]?:=Q8 rfl cs o
theorem el50:elemOfT env (.slice 26)=zs Ca:=rfl
theorem ap50(l:List TypeId)(s x:AV)(r:List AV)(K:PK):E9 env .append (50::50::l) (s::x::r) K=Bk Ca s x K:=rfl
theorem ix50(x:AV)(i:AV):Ir env pI x i=Vd Ca x i:=rfl
theorem ont51{f:TI->OpS}:j4 env 51 f=f xN:=rfl
theorem ty51_d:xN.desc=.slice 26:=rfl
theorem ln51(l:List TypeId)(x:AV)(r:List AV)(K:PK):E9 env .len (51::l) (x::r) K=wV x K:=rfl
theorem ap51(l:List TypeId)(s x:AV)(r:List AV)(K:PK):E9 env .append (51::51::l) (s::x::r) K=Bk Ca s x K:=rfl
theorem ix51(x:AV)(i:AV):Ir env xN x i=Vd Ca x i:=rfl
theorem ont55{f:TI->OpS}:j4 env 55 f=f tH:=rfl
theorem ty55_z:tH.size=1:=rfl
theorem ty55_0:tH.zero=.nilptr:=rfl
theorem pt55(cs:List AV)(o:Nat):partOf tH cs o=cs[o]?:=Q8 rfl cs o
theorem ont57{f:TI->OpS}:j4 env 57 f=f Pk:=rfl
theorem ty57_z:Pk.size=9:=rfl
theorem ty57_0:Pk.zero=.agg [.nilsl,.nilsl,.nilsl,(.int .i64 0),.nilsl,.nilsl,(.int .i64 0),(.int .i64 0),(.int .i64 0)]:=rfl
def xP(i:Nat):Option (Nat×Nat):=A4 (Yv [(25,0),(26,2),(3,3),(50,4),(32,5),(3,8)] i) fun f=>onTI env f.1 zn fun g=>zs (f.2,g.size)
theorem bd57(ps:List (Nat×AV)):f8 env Pk ps=PA (X0 xP ps Pk.zero.cells):=rfl
theorem pl57_0:xP 0=zs (0,2):=rfl
theorem fq57_0(x:AV):F6 env Pk 0 x=B0 x 0:=rfl
theorem pl57_1:xP 1=zs (2,1):=rfl
theorem fq57_1(x:AV):F6 env Pk 1 x=B0 x 2:=rfl
theorem pl57_2:xP 2=zs (3,1):=rfl
theorem fq57_2(x:AV):F6 env Pk 2 x=B0 x 3:=rfl
theorem fq57_3(x:AV):F6 env Pk 3 x=B0 x 4:=rfl
theorem fq57_4(x:AV):F6 env Pk 4 x=B0 x 5:=rfl
theorem fq57_5(x:AV):F6 env Pk 5 x=B0 x 8:=rfl
theorem ont59{f:TI->OpS}:j4 env 59 f=f Pl:=rfl
theorem DV:env.ti 59=zs Pl:=rfl
theorem ty59_z:Pl.size=4:=rfl
theorem ty59_0:Pl.zero=.agg [(.str []),(.int .i64 0),(.int .i64 0),(.int .i64 0)]:=rfl
theorem fq59_1(x:AV):F6 env Pl 1 x=B0 x 1:=rfl
theorem fq59_2(x:AV):F6 env Pl 2 x=B0 x 2:=rfl
theorem pt59(cs:List AV)(o:Nat):partOf Pl cs o=if o+4<=cs.length then zs (.agg ((cs.drop o).take 4))else zn:=b9 rfl cs o
theorem ont61{f:TI->OpS}:j4 env 61 f=f eE:=rfl
theorem ty61_z:eE.size=2:=rfl
theorem ty61_0:eE.zero=.agg [(.int .i64 0),(.int .i64 0)]:=rfl
def DW(i:Nat):Option (Nat×Nat):=A4 (Yv [(3,0),(3,1)] i) fun f=>onTI env f.1 zn fun g=>zs (f.2,g.size)
theorem bd61(ps:List (Nat×AV)):f8 env eE ps=PA (X0 DW ps eE.zero.cells):=rfl
theorem pl61_0:DW 0=zs (0,1):=rfl
theorem fq61_0(x:AV):F6 env eE 0 x=B0 x 0:=rfl
theorem pl61_1:DW 1=zs (1,1):=rfl
theorem fq61_1(x:AV):F6 env eE 1 x=B0 x 1:=rfl
theorem ont65{f:TI->OpS}:j4 env 65 f=f Hv:=rfl
theorem DY:env.ti 65=zs Hv:=rfl
theorem ty65_z:Hv.size=8:=rfl
theorem ty65_0:Hv.zero=.agg [(.int .i64 0),(.int .i64 0),(.int .i64 0),(.int .i64 0),(.int .i64 0),(.int .i64 0),(.str []),.nilsl]:=rfl
theorem fq65_0(x:AV):F6 env Hv 0 x=B0 x 0:=rfl
theorem fq65_1(x:AV):F6 env Hv 1 x=B0 x 1:=rfl
theorem fq65_2(x:AV):F6 env Hv 2 x=B0 x 2:=rfl
theorem fq65_3(x:AV):F6 env Hv 3 x=B0 x 3:=rfl
theorem fq65_4(x:AV):F6 env Hv 4 x=B0 x 4:=rfl
theorem fq65_5(x:AV):F6 env Hv 5 x=B0 x 5:=rfl
theorem fq65_6(x:AV):F6 env Hv 6 x=B0 x 6:=rfl
theorem fq65_7(x:AV):F6 env Hv 7 x=B0 x 7:=rfl
theorem pt65(cs:List AV)(o:Nat):partOf Hv cs o=if o+8<=cs.length then zs (.agg ((cs.drop o).take 8))else zn:=b9 rfl cs o
theorem ont68{f:TI->OpS}:j4 env 68 f=f aF:=rfl
theorem ty68_z:aF.size=7:=rfl
theorem ty68_0:aF.zero=.agg [.nilsl,.nilsl,(.str []),(.int .i64 0),(.int .i64 0),.nilsl,.nilsl]:=rfl
def DZ(i:Nat):Option (Nat×Nat):=A4 (Yv [(25,0),(38,2)] i) fun f=>onTI env f.1 zn fun g=>zs (f.2,g.size)
theorem bd68(ps:List (Nat×AV)):f8 env aF ps=PA (X0 DZ ps aF.zero.cells):=rfl
theorem pl68_0:DZ 0=zs (0,2):=rfl
theorem fq68_0(x:AV):F6 env aF 0 x=B0 x 0:=rfl
theorem pl68_1:DZ 1=zs (2,5):=rfl
theorem fq68_1(x:AV):F6 env aF 1 x=B0 x 2:=rfl
theorem pt68(cs:List AV)(o:Nat):partOf aF cs o=if o+7<=cs.length then zs (.agg ((cs.drop o).take 7))else zn:=b9 rfl cs o
theorem ont104{f:TI->OpS}:j4 env 104 f=f tI:=rfl
theorem ty104_d:tI.desc=.int .i8:=rfl
theorem ont122{f:TI->OpS}:j4 env 122 f=f tJ:=rfl
theorem ty122_d:tJ.desc=.int .u64:=rfl
end
theorem z0z{a b:Prop}(x:a)(y:b):a/\b:=⟨x,y⟩
def XQ:=z0z @e_seq<|z0z @seqP_normal<|z0z @seqP_exit<|z0z @seqP_ret<|z0z @seqP_pan<|z0z @e_skip<|z0z @e_exit<|z0z @e_ret<|z0z @e_reg<|z0z @e_regD<|z0z @e_pre<|z0z @e_cond<|z0z @condP_true<|z0z @condP_false<|z0z @e_block<|z0z @blkP_normal<|z0z @blkP_exit<|z0z @blkP_ret<|z0z @blkP_pan<|z0z @e_post<|z0z @postP_normal<|z0z @postP_exit<|z0z @postP_ret<|z0z @postP_pan<|z0z @callK_val<|z0z @callK_pan<|z0z @doP_val<|z0z @doP_call<|z0z @doP_pan<|z0z @e_nil<|z0z @e_op<|z0z @e_opS<|z0z @e_opY<|z0z @callD_val<|z0z @callD_pan<|z0z @callQ_pan<|z0z @v_nil<|z0z @v_late<|z0z @v_op<|z0z @doV_val<|z0z @doD_val<|z0z @doD_call<|z0z @callQ_val<|z0z @doQ_val<|z0z @doQ_call<|z0z @doQ_sep<|z0z @callQ_sep<|z0z @doS_val<|z0z @s_nil<|z0z @s_op<|z0z @s_ld<|z0z @cvs_nil<|z0z @cvs_cons<|z0z @cv_ptr<|z0z @e_nilD<|z0z @d_op<|z0z @d_opQ<|z0z @d_opS<|z0z @d_opY<|z0z @d_opYQ<|z0z @bodyP_ret<|z0z @bodyP_norm<|z0z @bodyP_pan<|z0z @lk_hit<|z0z @lk_cons<|z0z @st_some<|z0z @st_none<|z0z @ov_tmp<|z0z @ov_int<|z0z @ov_bool<|z0z @ov_str<|z0z @ov_nsl<|z0z @ov_npt<|z0z @ov_func<|z0z @ol_nil<|z0z @ol_cons<|z0z @oq_nil<|z0z @oq_cons<|z0z @oo_none<|z0z @oo_some<|z0z @en_nil<|z0z @en_cons<|z0z @one_1<|z0z @one_2<|z0z @one_0<|z0z @ofV_some<|z0z @ofO_some<|z0z @pr_move<|z0z @pr_assign<|z0z @pr_pick<|z0z @pick_true<|z0z @pick_false<|z0z @pr_alloc<|z0z @pr_box<|z0z @pr_build<|z0z @pr_buildSl<|z0z @pr_load<|z0z @pr_store<|z0z @pr_nil<|z0z @pr_bin<|z0z @pr_un<|z0z @pr_conv<|z0z @pr_fn<|z0z @pr_slice<|z0z @pr_fa<|z0z @pr_ia<|z0z @pr_ex<|z0z @pr_bui<|z0z @pr_call<|z0z @pr_callv<|z0z @callP_fn<|z0z @bp_add<|z0z @bp_sub<|z0z @bp_mul<|z0z @bp_eql<|z0z @bp_neq<|z0z @bp_lss<|z0z @bp_leq<|z0z @bp_gtr<|z0z @bp_geq<|z0z @bp_eqlS<|z0z @bp_neqS<|z0z @wt_true<|z0z @wt_false<|z0z @wt_skip<|z0z @as_nat<|z0z @ln_fsl<|z0z @ln_msl<|z0z @ln_nil<|z0z @ix_fsl<|z0z @ix_msl<|z0z @exP_tup<|z0z @ld_f<|z0z @ld_p<|z0z @ldR_some<|z0z @ldE_some<|z0z @tb_nil<|z0z @tb_eq<|z0z @tbE_row<|z0z @te_eq<|z0z @teE_flat<|z0z @teE_row<|z0z @te_fsl<|z0z @ap_eq<|z0z @ap1_some<|z0z @ap2_some<|z0z @cl_int<|z0z @cl_bool<|z0z @cl_own<|z0z @cl_msl<|z0z @ag_int<|z0z @ag_nsl<|z0z @cl_nsl<|z0z @ce_int<|z0z @ce_bool<|z0z @ce_str<|z0z @ce_agg<|z0z @ce_nsl<|z0z @ce_msl<|z0z @ce_own<|z0z @fl_nil<|z0z @fl_cons<|z0z @ro6<|z0z @rwE_row<|z0z @rwE_sub<|z0z @rwS_some<|z0z @rwC_some<|z0z @rwD_some<|z0z @ow_own<|z0z @rt_eq<|z0z @rtE_row<|z0z @rtE_sub<|z0z @ch_eq<|z0z @chE_row<|z0z @kp_eq<|z0z @kg_nil<|z0z @kg_row<|z0z @kg_dead<|z0z @kg_sub<|z0z @ks_eq<|z0z @kh_nil<|z0z @kh_row<|z0z @mf_nil<|z0z @mf_cons<|z0z @mo_nil<|z0z @mo_cons<|z0z @mp_1<|z0z @mp_2<|z0z @mk1_eq<|z0z @mk2_eq<|z0z @sm_eq<|z0z @smE_row<|z0z @smE_row1<|z0z @smE_dead<|z0z @mi_eq<|z0z @rs_nil<|z0z @rs_cons<|z0z @rg_0<|z0z @rg_1<|z0z @rg_2<|z0z @rg_3<|z0z @rg_4<|z0z @rp_nil<|z0z @rp_cons<|z0z @po_cons<|z0z @rv_int<|z0z @rv_bool<|z0z @rv_str<|z0z @rv_agg<|z0z @rv_fsl<|z0z @rv_msl<|z0z @rv_ptr<|z0z @rv_nsl<|z0z @rv_fn<|z0z @rl_nil<|z0z @rl_cons<|z0z @rnM_some<|z0z @rnP_some<|z0z @et_eq<|z0z @enE_some<|z0z @rp_row<|z0z @rp_row1<|z0z @rp_dead<|z0z @rf_int<|z0z @rf_bool<|z0z @rf_str<|z0z @rf_agg<|z0z @rf_fsl<|z0z @rf_msl<|z0z @rf_ptr<|z0z @rf_nsl<|z0z @rf_fn<|z0z @rfl_nil<|z0z @rfl_cons<|z0z @bk_nil<|z0z @bk_cons<|z0z @bv_eq<|z0z @bs_nil<|z0z @bs_cons<|z0z @bc_msl<|z0z @bc_int<|z0z @lv_agg<|z0z @lv_msl<|z0z @lv_int<|z0z @lv_bool<|z0z @lv_str<|z0z @lv_own<|z0z @lv_nsl<|z0z @hd_cons<|z0z @os_nil<|z0z @os_cons<|z0z @ot_nil<|z0z @ot_own<|z0z @ot_int<|z0z @ot_bool<|z0z @va_nil<|z0z @va_cons<|z0z @co_some<|z0z @vv_int<|z0z @vv_bool<|z0z @vv_str<|z0z @wv_int<|z0z @wv_str<|z0z @agO_some<|z0z @vv_agg<|z0z @vl_nil<|z0z @vl_cons<|z0z @fsO_some<|z0z @vv_msl<|z0z @vmE_some<|z0z @fz_nil<|z0z @fz_cons<|z0z @fz_int<|z0z @fz_str<|z0z @fz_agg<|z0z @nf_int<|z0z @nf_bool<|z0z @nf_agg<|z0z @nf_own<|z0z @nfl_nil<|z0z @nfl_cons<|z0z @or_nil<|z0z @or_cons<|z0z @on_int<|z0z @on_bool<|z0z @ok_int<|z0z @ok_str<|z0z @ok_msl<|z0z @ok_ptr<|z0z @ok_nsl<|z0z @nr_eq<|z0z @bx_eq<|z0z @wc_agg<|z0z @wc_int<|z0z @wc_nsl<|z0z @wc_msl<|z0z @ra_eq<|z0z @raE_0<|z0z @raE_1<|z0z @raE_sub<|z0z @sr_eq<|z0z @srE_row<|z0z @srE_sub<|z0z @srS_some<|z0z @srC_some<|z0z @srD_some<|z0z @spR_some<|z0z @spE_some<|z0z @spB_true<|z0z @spB_false<|z0z @spC_true<|z0z @spC_false<|z0z @spO_some<|z0z @spQ_some<|z0z @spS_some<|z0z @rl_1<|z0z @sc_nil<|z0z @sc_msl<|z0z @scM_row<|z0z @scK_some<|z0z @rsT_some<|z0z @rsO_some<|z0z @rs_0<|z0z @rs_tmp<|z0z @ok_fslN<|z0z @ce_fslN<|z0z @rf_fslN<|z0z @rv_fslN<|z0z @fz_fslN<|z0z @vv_fslN<|z0z @wv_fslN<|z0z @ln_fslN<|z0z @ix_fslN<|z0z @lv_fslN<|z0z @te_fslN<|z0z @pf_f<|z0z @pf_p<|z0z @ldW_eq<|z0z @oc_nil<|z0z @oc_own<|z0z @oc_int<|z0z @oc_str<|z0z @oc_fslN<|z0z @oc_msl<|z0z @oc_ptr<|z0z @oc_nsl<|z0z @lv_ptr<|z0z @ce_ptr<|z0z @bs_eq<|z0z @bsE_some<|z0z @pl_nil<|z0z @pl_cons<|z0z @plE_some<|z0z @rl_0<|z0z @rl_2<|z0z @rl_7<|z0z @tk_all<|z0z @fp_ok<|z0z @fbK_some<|z0z @fb_nil<|z0z @fbP_some<|z0z @fb_cons<|z0z @agM_some<|z0z @inpK_val<|z0z @wp_eq<|z0z @wpE_some<|z0z @ap2_nil<|z0z @ro5<|z0z @pr_pan<|z0z @panP_i<|z0z @nc_ptr<|z0z @inpK_pan<|z0z @fl_none<|z0z @rtQ_eq<|z0z @rtQ_row<|z0z @Option.map_some.{0,0}<|z0z @List.take_succ_cons.{0}<|z0z @List.take_zero.{0}<|z0z @List.drop_succ_cons.{0}<|z0z @List.drop_zero.{0}<|z0z @Option.map_none.{0,0}<|z0z @List.all_cons.{0}<|z0z @List.all_nil.{0}<|z0z @List.isEmpty_cons.{0}<|z0z @List.isEmpty_nil.{0}<|z0z @List.mem_cons.{0}<|z0z @List.not_mem_nil.{0}<|z0z @or_false<|z0z @false_or<|z0z @or_true<|z0z @true_or<|z0z @not_false_eq_true<|z0z @not_true_eq_false<|z0z @and_true<|z0z @true_and<|z0z @and_self<|z0z @Bool.and_self<|z0z @Bool.and_true<|z0z @Bool.true_and<|z0z @List.set_cons_zero.{0}<|z0z @List.set_cons_succ.{0}<|z0z @List.flatMap_cons.{0,0}<|z0z @List.flatMap_nil.{0,0}<|z0z @List.filter_cons.{0}<|z0z @List.filter_nil.{0}<|z0z @eq_self.{1}<|z0z @List.nodup_cons.{0}<|z0z @List.nodup_nil.{0}<|z0z @Option.isSome_some.{0}<|z0z @Option.isSome_none.{0}<|z0z @Bool.or_true<|z0z @Bool.or_false<|z0z @Bool.true_or<|z0z @Bool.false_or<|z0z @Nat.le_refl<|z0z @Nat.lt_irrefl<|z0z @Nat.not_lt_zero<|z0z @Nat.zero_le<|z0z @decide_eq_true_eq<|z0z @ne_eq.{1}<|z0z @List.cons_append.{0}<|z0z @List.nil_append.{0}<|z0z @List.append_nil.{0}<|z0z @List.length_cons.{0}<|z0z @List.length_nil.{0}<|z0z @List.getElem?_cons_zero.{0}<|z0z @List.getElem?_cons_succ.{0}<|z0z @List.getElem?_nil.{0}<|z0z @Nat.add_zero<|z0z @Bool.not_true<|z0z @Bool.not_false<|z0z @decide_true<|z0z @decide_false<|z0z @Option.some.injEq.{0}<|z0z @Bool.true_eq_false<|z0z @Bool.false_eq_true<|z0z @u_not<|z0z @Option.isNone_some.{0}<|z0z @Option.isNone_none.{0}<|z0z @Bool.and_false<|z0z @Bool.false_and<|z0z @cond_false.{1}<|z0z @cond_true.{1}<|z0z @beq_self_eq_true.{0}<|z0z @bne_self_eq_false.{0}<|z0z @ont2<|z0z @ont3<|z0z @ty3_z<|z0z @ty3_b<|z0z @ty3_d<|z0z @ft3<|z0z @ty3_0<|z0z @pt3<|z0z @ont9<|z0z @pt9<|z0z @ont21<|z0z @ty21_d<|z0z @ont22<|z0z @pt22<|z0z @ln22<|z0z @ix22<|z0z @ont23<|z0z @pt23<|z0z @ln23<|z0z @ix23<|z0z @ont25<|z0z @ty25_z<|z0z @fq25_0<|z0z @fq25_1<|z0z @pt25<|z0z @ont26<|z0z @ty26_z<|z0z @ty26_b<|z0z @ty26_d<|z0z @ft26<|z0z @ty26_0<|z0z @pt26<|z0z @el26<|z0z @ln26<|z0z @ap26<|z0z @ix26<|z0z @ont32<|z0z @ty32_z<|z0z @ty32_0<|z0z @bd32<|z0z @pl32_0<|z0z @fq32_0<|z0z @pl32_1<|z0z @fq32_1<|z0z @pl32_2<|z0z @fq32_2<|z0z @ont36<|z0z @pt36<|z0z @ln36<|z0z @ix36<|z0z @ont38<|z0z @ty38_z<|z0z @ty38_0<|z0z @fq38_0<|z0z @fq38_1<|z0z @fq38_2<|z0z @fq38_3<|z0z @fq38_4<|z0z @pt38<|z0z @ont39<|z0z @pt39<|z0z @ln39<|z0z @ix39<|z0z @ont41<|z0z @ty41_z<|z0z @ty41_0<|z0z @fq41_0<|z0z @fq41_1<|z0z @fq41_2<|z0z @fq41_3<|z0z @pt41<|z0z @ont43<|z0z @ty43_z<|z0z @ty43_0<|z0z @fq43_0<|z0z @fq43_1<|z0z @pt43<|z0z @ont50<|z0z @ty50_z<|z0z @ty50_d<|z0z @pt50<|z0z @el50<|z0z @ap50<|z0z @ix50<|z0z @ont51<|z0z @ty51_d<|z0z @ln51<|z0z @ap51<|z0z @ix51<|z0z @ont55<|z0z @ty55_z<|z0z @ty55_0<|z0z @pt55<|z0z @ont57<|z0z @ty57_z<|z0z @ty57_0<|z0z @bd57<|z0z @pl57_0<|z0z @fq57_0<|z0z @pl57_1<|z0z @fq57_1<|z0z @pl57_2<|z0z @fq57_2<|z0z @fq57_3<|z0z @fq57_4<|z0z @fq57_5<|z0z @ont59<|z0z @ty59_z<|z0z @ty59_0<|z0z @fq59_1<|z0z @fq59_2<|z0z @pt59<|z0z @ont61<|z0z @ty61_z<|z0z @ty61_0<|z0z @bd61<|z0z @pl61_0<|z0z @fq61_0<|z0z @pl61_1<|z0z @fq61_1<|z0z @ont65<|z0z @ty65_z<|z0z @ty65_0<|z0z @fq65_0<|z0z @fq65_1<|z0z @fq65_2<|z0z @fq65_3<|z0z @fq65_4<|z0z @fq65_5<|z0z @fq65_6<|z0z @fq65_7<|z0z @pt65<|z0z @ont68<|z0z @ty68_z<|z0z @ty68_0<|z0z @bd68<|z0z @pl68_0<|z0z @fq68_0<|z0z @pl68_1<|z0z @fq68_1<|z0z @pt68<|z0z @ont104<|z0z @ty104_d<|z0z @ont122<|z0z @ty122_d<|z0z @xo_eq<|z0z @xm_eq<|z0z @xg_eq<|z0z @tm_eq<|z0z @ki_eq<|z0z @cl_eq<|z0z @xa_eq<|z0z @xl_eq<|z0z @xf_eq<|z0z @xi_eq<|z0z @xn_eq<|z0z @xs_eq<|z0z @xb_eq<|z0z @gl_eq<|z0z @gf_eq<|z0z @R_eq<|z0z @qs_eq<|z0z @kf_eq<|@kt_eq
def XP:=And.intro XQ (And.intro @sp_eq Nat.zero_add)
end Go.Proofs.AmEnv
