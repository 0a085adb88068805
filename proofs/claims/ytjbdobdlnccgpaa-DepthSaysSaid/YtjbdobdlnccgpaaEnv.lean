/- The tables of this program's types and functions, facts on them, and the rules. Conditions: none. -/
import Derived.Test.YtjbdobdlnccgpaaCode
set_option linter.unusedVariables false
set_option linter.unusedSimpArgs false
set_option linter.unusedSectionVars false
set_option linter.defProp false
set_option maxRecDepth 100000
set_option maxHeartbeats 4000000
open Option renaming some→zs,none→zn
open Bool renaming true→zt,false→zf
namespace Go.Proofs.AmEnv
abbrev C2{α:Type}(t m:Nat)(a b:α):α:=bif Nat.blt t m then a else b
abbrev C1{α:Type}(t m:Nat)(a:α):Option α:=bif Nat.beq t m then zs a else zn
open Go.AM
noncomputable def gA:TI:=⟨.int .i64,1,8,.int .i64 0⟩
noncomputable def JB:TI:=⟨.bool,1,1,.bool zf⟩
noncomputable def KE:TI:=⟨.string,1,16,.str []⟩
noncomputable def FU:TI:=⟨.int .i32,1,4,.int .i32 0⟩
noncomputable def kN:TI:=⟨.slice 59,1,24,.nilsl⟩
noncomputable def gB:TI:=⟨.slice 36,1,24,.nilsl⟩
noncomputable def Ty:TI:=⟨.struct [(22,0),(23,1)] zf,2,48,.agg [.nilsl,.nilsl]⟩
noncomputable def A0n:TI:=⟨.func,1,8,.nilfn⟩
noncomputable def Ha:TI:=⟨.slice 3,1,24,.nilsl⟩
noncomputable def gC:TI:=⟨.slice 41,1,24,.nilsl⟩
noncomputable def l6:TI:=⟨.struct [(9,0),(3,1),(3,2),(33,3),(34,4)] zf,5,80,.agg [(.str []),(.int .i64 0),(.int .i64 0),.nilsl,.nilsl]⟩
noncomputable def gD:TI:=⟨.slice 65,1,24,.nilsl⟩
noncomputable def A0o:TI:=⟨.struct [(3,0),(3,1),(3,2),(3,3)] zt,4,32,.agg [(.int .i64 0),(.int .i64 0),(.int .i64 0),(.int .i64 0)]⟩
noncomputable def Nc:TI:=⟨.struct [(3,0),(3,1),(3,2),(3,3)] zt,4,32,.agg [(.int .i64 0),(.int .i64 0),(.int .i64 0),(.int .i64 0)]⟩
noncomputable def Db:TI:=⟨.struct [(37,0),(39,1)] zf,5,56,.agg [.nilsl,(.int .i64 0),(.int .i64 0),(.int .i64 0),(.int .i64 0)]⟩
noncomputable def A0p:TI:=⟨.int .i64,1,8,.int .i64 0⟩
noncomputable def A0q:TI:=⟨.func,1,8,.nilfn⟩
noncomputable def A0r:TI:=⟨.func,1,8,.nilfn⟩
noncomputable def A0s:TI:=⟨.func,1,8,.nilfn⟩
noncomputable def yU:TI:=⟨.slice 33,1,24,.nilsl⟩
noncomputable def uU:TI:=⟨.slice 4,1,24,.nilsl⟩
noncomputable def Cb:TI:=⟨.struct [(9,0),(3,1),(3,2),(3,3)] zt,4,40,.agg [(.str []),(.int .i64 0),(.int .i64 0),(.int .i64 0)]⟩
noncomputable def A0t:TI:=⟨.func,1,8,.nilfn⟩
noncomputable def A0u:TI:=⟨.func,1,8,.nilfn⟩
noncomputable def A0v:TI:=⟨.func,1,8,.nilfn⟩
noncomputable def A0w:TI:=⟨.ptr 65,1,8,.nilptr⟩
noncomputable def t7:TI:=⟨.struct [(3,0),(3,1),(3,2),(3,3),(3,4),(3,5),(9,6),(33,7)] zf,8,88,.agg [(.int .i64 0),(.int .i64 0),(.int .i64 0),(.int .i64 0),(.int .i64 0),(.int .i64 0),(.str []),.nilsl]⟩
noncomputable def A0x:TI:=⟨.func,1,8,.nilfn⟩
noncomputable def cC:TI:=⟨.struct [(25,0),(36,2)] zf,7,128,.agg [.nilsl,.nilsl,(.str []),(.int .i64 0),(.int .i64 0),.nilsl,.nilsl]⟩
noncomputable def A0y:TI:=⟨.func,1,8,.nilfn⟩
noncomputable def A0z:TI:=⟨.func,1,8,.nilfn⟩
noncomputable def A1A:TI:=⟨.func,1,8,.nilfn⟩
noncomputable def KF:TI:=⟨.func,1,8,.nilfn⟩
noncomputable def KG:TI:=⟨.func,1,8,.nilfn⟩
noncomputable def KH:TI:=⟨.func,1,8,.nilfn⟩
noncomputable def KI:TI:=⟨.func,1,8,.nilfn⟩
noncomputable def KJ:TI:=⟨.func,1,8,.nilfn⟩
noncomputable def KK:TI:=⟨.func,1,8,.nilfn⟩
noncomputable def KL:TI:=⟨.func,1,8,.nilfn⟩
noncomputable def uV:TI:=⟨.int .i8,1,1,.int .i8 0⟩
noncomputable def KM:TI:=⟨.array 0 16,0,0,.agg []⟩
noncomputable def KN:TI:=⟨.struct [(122,0)] zf,0,0,.agg []⟩
noncomputable def ti(t:Nat):Option TI:=
 C2 t 59 (C2 t 36 (C2 t 23 (C2 t 9 (C2 t 4 (C1 t 3 gA) (C1 t 4 JB)) (C2 t 21 (C1 t 9 KE) (C2 t 22 (C1 t 21 FU) (C1 t 22 kN)))) (C2 t 32 (C2 t 25 (C1 t 23 gB) (C1 t 25 Ty)) (C2 t 33 (C1 t 32 A0n) (C2 t 34 (C1 t 33 Ha) (C1 t 34 gC))))) (C2 t 42 (C2 t 38 (C2 t 37 (C1 t 36 l6) (C1 t 37 gD)) (C2 t 39 (C1 t 38 A0o) (C2 t 41 (C1 t 39 Nc) (C1 t 41 Db)))) (C2 t 47 (C2 t 43 (C1 t 42 A0p) (C2 t 45 (C1 t 43 A0q) (C1 t 45 A0r))) (C2 t 49 (C1 t 47 A0s) (C2 t 53 (C1 t 49 yU) (C1 t 53 uU)))))) (C2 t 97 (C2 t 65 (C2 t 61 (C2 t 60 (C1 t 59 Cb) (C1 t 60 A0t)) (C2 t 62 (C1 t 61 A0u) (C2 t 63 (C1 t 62 A0v) (C1 t 63 A0w)))) (C2 t 74 (C2 t 72 (C1 t 65 t7) (C1 t 72 A0x)) (C2 t 77 (C1 t 74 cC) (C2 t 94 (C1 t 77 A0y) (C1 t 94 A0z))))) (C2 t 105 (C2 t 102 (C2 t 100 (C1 t 97 A1A) (C1 t 100 KF)) (C2 t 103 (C1 t 102 KG) (C2 t 104 (C1 t 103 KH) (C1 t 104 KI)))) (C2 t 113 (C2 t 109 (C1 t 105 KJ) (C2 t 110 (C1 t 109 KK) (C1 t 110 KL))) (C2 t 122 (C1 t 113 uV) (C2 t 124 (C1 t 122 KM) (C1 t 124 KN))))))
noncomputable def fn(f:Nat):Option FI:=
 C2 f 42 (C2 f 22 (C2 f 12 (C2 f 7 (C2 f 5 (C2 f 4 (C1 f 3 fi3) (C1 f 4 fi4)) (C2 f 6 (C1 f 5 fi5) (C1 f 6 fi6))) (C2 f 9 (C2 f 8 (C1 f 7 fi7) (C1 f 8 fi8)) (C2 f 10 (C1 f 9 fi9) (C2 f 11 (C1 f 10 VT) (C1 f 11 VW))))) (C2 f 17 (C2 f 14 (C2 f 13 (C1 f 12 VY) (C1 f 13 WA)) (C2 f 15 (C1 f 14 WC) (C2 f 16 (C1 f 15 WE) (C1 f 16 WH)))) (C2 f 19 (C2 f 18 (C1 f 17 WJ) (C1 f 18 WL)) (C2 f 20 (C1 f 19 WN) (C2 f 21 (C1 f 20 WP) (C1 f 21 WR)))))) (C2 f 32 (C2 f 27 (C2 f 24 (C2 f 23 (C1 f 22 WU) (C1 f 23 WW)) (C2 f 25 (C1 f 24 WY) (C2 f 26 (C1 f 25 XA) (C1 f 26 XD)))) (C2 f 29 (C2 f 28 (C1 f 27 XF) (C1 f 28 XH)) (C2 f 30 (C1 f 29 XJ) (C2 f 31 (C1 f 30 XL) (C1 f 31 XN))))) (C2 f 37 (C2 f 34 (C2 f 33 (C1 f 32 XR) (C1 f 33 XT)) (C2 f 35 (C1 f 34 XV) (C2 f 36 (C1 f 35 XX) (C1 f 36 XZ)))) (C2 f 39 (C2 f 38 (C1 f 37 YB) (C1 f 38 YD)) (C2 f 40 (C1 f 39 YF) (C2 f 41 (C1 f 40 YH) (C1 f 41 YJ))))))) (C2 f 61 (C2 f 51 (C2 f 46 (C2 f 44 (C2 f 43 (C1 f 42 YL) (C1 f 43 YN)) (C2 f 45 (C1 f 44 YR) (C1 f 45 YT))) (C2 f 48 (C2 f 47 (C1 f 46 YV) (C1 f 47 YX)) (C2 f 49 (C1 f 48 YZ) (C2 f 50 (C1 f 49 ZB) (C1 f 50 ZD))))) (C2 f 56 (C2 f 53 (C2 f 52 (C1 f 51 ZF) (C1 f 52 ZH)) (C2 f 54 (C1 f 53 ZJ) (C2 f 55 (C1 f 54 ZL) (C1 f 55 ZN)))) (C2 f 58 (C2 f 57 (C1 f 56 ZP) (C1 f 57 ZR)) (C2 f 59 (C1 f 58 ZT) (C2 f 60 (C1 f 59 ZV) (C1 f 60 ZX)))))) (C2 f 72 (C2 f 66 (C2 f 63 (C2 f 62 (C1 f 61 ZZ) (C1 f 62 A0B)) (C2 f 64 (C1 f 63 A0D) (C2 f 65 (C1 f 64 A0F) (C1 f 65 A0H)))) (C2 f 68 (C2 f 67 (C1 f 66 A0J) (C1 f 67 A0L)) (C2 f 69 (C1 f 68 A0N) (C2 f 70 (C1 f 69 A0P) (C1 f 70 A0R))))) (C2 f 77 (C2 f 74 (C2 f 73 (C1 f 72 A0T) (C1 f 73 A0V)) (C2 f 75 (C1 f 74 A0X) (C2 f 76 (C1 f 75 A0Z) (C1 f 76 A0b)))) (C2 f 79 (C2 f 78 (C1 f 77 A0d) (C1 f 78 A0f)) (C2 f 80 (C1 f 79 A0h) (C2 f 82 (C1 f 80 A0j) (C1 f 82 A0l)))))))
noncomputable def env:Env:=⟨ti,fn,fun _=>zn,fun f=>Nat.beq f 71,zs 0,fun _=>zf,fun _=>zn,fun _ _=>zf⟩
noncomputable section
def A0(f:Nat):Option PFn:=C2 f 42 (C2 f 22 (C2 f 12 (C2 f 7 (C2 f 5 (C2 f 4 (C1 f 3 pf3) (C1 f 4 pf4)) (C2 f 6 (C1 f 5 pf5) (C1 f 6 pf6))) (C2 f 9 (C2 f 8 (C1 f 7 pf7) (C1 f 8 pf8)) (C2 f 10 (C1 f 9 pf9) (C2 f 11 (C1 f 10 VU) (C1 f 11 VX))))) (C2 f 17 (C2 f 14 (C2 f 13 (C1 f 12 VZ) (C1 f 13 WB)) (C2 f 15 (C1 f 14 WD) (C2 f 16 (C1 f 15 WG) (C1 f 16 WI)))) (C2 f 19 (C2 f 18 (C1 f 17 WK) (C1 f 18 WM)) (C2 f 20 (C1 f 19 WO) (C2 f 21 (C1 f 20 WQ) (C1 f 21 WS)))))) (C2 f 32 (C2 f 27 (C2 f 24 (C2 f 23 (C1 f 22 WV) (C1 f 23 WX)) (C2 f 25 (C1 f 24 WZ) (C2 f 26 (C1 f 25 XB) (C1 f 26 XE)))) (C2 f 29 (C2 f 28 (C1 f 27 XG) (C1 f 28 XI)) (C2 f 30 (C1 f 29 XK) (C2 f 31 (C1 f 30 XM) (C1 f 31 XO))))) (C2 f 37 (C2 f 34 (C2 f 33 (C1 f 32 XS) (C1 f 33 XU)) (C2 f 35 (C1 f 34 XW) (C2 f 36 (C1 f 35 XY) (C1 f 36 YA)))) (C2 f 39 (C2 f 38 (C1 f 37 YC) (C1 f 38 YE)) (C2 f 40 (C1 f 39 YG) (C2 f 41 (C1 f 40 YI) (C1 f 41 YK))))))) (C2 f 61 (C2 f 51 (C2 f 46 (C2 f 44 (C2 f 43 (C1 f 42 YM) (C1 f 43 YO)) (C2 f 45 (C1 f 44 YS) (C1 f 45 YU))) (C2 f 48 (C2 f 47 (C1 f 46 YW) (C1 f 47 YY)) (C2 f 49 (C1 f 48 ZA) (C2 f 50 (C1 f 49 ZC) (C1 f 50 ZE))))) (C2 f 56 (C2 f 53 (C2 f 52 (C1 f 51 ZG) (C1 f 52 ZI)) (C2 f 54 (C1 f 53 ZK) (C2 f 55 (C1 f 54 ZM) (C1 f 55 ZO)))) (C2 f 58 (C2 f 57 (C1 f 56 ZQ) (C1 f 57 ZS)) (C2 f 59 (C1 f 58 ZU) (C2 f 60 (C1 f 59 ZW) (C1 f 60 ZY)))))) (C2 f 72 (C2 f 66 (C2 f 63 (C2 f 62 (C1 f 61 A0A) (C1 f 62 A0C)) (C2 f 64 (C1 f 63 A0E) (C2 f 65 (C1 f 64 A0G) (C1 f 65 A0I)))) (C2 f 68 (C2 f 67 (C1 f 66 A0K) (C1 f 67 A0M)) (C2 f 69 (C1 f 68 A0O) (C2 f 70 (C1 f 69 A0Q) (C1 f 70 A0S))))) (C2 f 77 (C2 f 74 (C2 f 73 (C1 f 72 A0U) (C1 f 73 A0W)) (C2 f 75 (C1 f 74 A0Y) (C2 f 76 (C1 f 75 A0a) (C1 f 76 A0c)))) (C2 f 79 (C2 f 78 (C1 f 77 A0e) (C1 f 78 A0g)) (C2 f 80 (C1 f 79 A0i) (C2 f 82 (C1 f 80 A0k) (C1 f 82 A0m)))))))
end
end Go.Proofs.AmEnv
set_option maxRecDepth 100000
set_option linter.unusedVariables false
namespace Go.Proofs.AmEnv
open Go Go.AM
noncomputable section
theorem ont3{f:TI->OpS}:o7 env 3 f=f gA:=rfl
theorem ti3:env.ti 3=zs gA:=rfl
theorem ty3_z:gA.size=1:=rfl
theorem ty3_b:gA.bytes=8:=rfl
theorem ty3_d:gA.desc=.int .i64:=rfl
theorem ft3:flatT gA=zt:=rfl
theorem ty3_0:gA.zero=.int .i64 0:=rfl
theorem pt3(cs:List AV)(o:Nat):partOf gA cs o=cs[o]?:=V5 rfl cs o
theorem ont4{f:TI->OpS}:o7 env 4 f=f JB:=rfl
theorem ty4_z:JB.size=1:=rfl
theorem pt4(cs:List AV)(o:Nat):partOf JB cs o=cs[o]?:=V5 rfl cs o
theorem ont9{f:TI->OpS}:o7 env 9 f=f KE:=rfl
theorem ti9:env.ti 9=zs KE:=rfl
theorem pt9(cs:List AV)(o:Nat):partOf KE cs o=cs[o]?:=V5 rfl cs o
theorem ont21{f:TI->OpS}:o7 env 21 f=f FU:=rfl
theorem ty21_d:FU.desc=.int .i32:=rfl
theorem ont22{f:TI->OpS}:o7 env 22 f=f kN:=rfl
theorem A1B:env.ti 22=zs kN:=rfl
theorem ty22_d:kN.desc=.slice 59:=rfl
theorem pt22(cs:List AV)(o:Nat):partOf kN cs o=cs[o]?:=V5 rfl cs o
theorem el22:elemOfT env (.slice 59)=zs Cb:=rfl
theorem ln22(l:List TypeId)(x:AV)(r:List AV)(K:PK):G3 env .len (22::l) (x::r) K=xS x K:=rfl
theorem ap22(l:List TypeId)(s x:AV)(r:List AV)(K:PK):G3 env .append (22::22::l) (s::x::r) K=j9 Cb s x K:=rfl
theorem ix22(x:AV)(i:AV):Hv env kN x i=Xc Cb x i:=rfl
theorem ont23{f:TI->OpS}:o7 env 23 f=f gB:=rfl
theorem A1C:env.ti 23=zs gB:=rfl
theorem ty23_z:gB.size=1:=rfl
theorem ty23_d:gB.desc=.slice 36:=rfl
theorem pt23(cs:List AV)(o:Nat):partOf gB cs o=cs[o]?:=V5 rfl cs o
theorem el23:elemOfT env (.slice 36)=zs l6:=rfl
theorem ln23(l:List TypeId)(x:AV)(r:List AV)(K:PK):G3 env .len (23::l) (x::r) K=xS x K:=rfl
theorem ap23(l:List TypeId)(s x:AV)(r:List AV)(K:PK):G3 env .append (23::23::l) (s::x::r) K=j9 l6 s x K:=rfl
theorem ix23(x:AV)(i:AV):Hv env gB x i=Xc l6 x i:=rfl
theorem ont25{f:TI->OpS}:o7 env 25 f=f Ty:=rfl
theorem A1D:env.ti 25=zs Ty:=rfl
theorem ty25_z:Ty.size=2:=rfl
theorem ty25_0:Ty.zero=.agg [.nilsl,.nilsl]:=rfl
def FV(i:Nat):Option (Nat×Nat):=A6 (Qj [(22,0),(23,1)] i) fun f=>onTI env f.1 zn fun g=>zs (f.2,g.size)
theorem bd25(ps:List (Nat×AV)):U1 env Ty ps=FB (S7 FV ps Ty.zero.cells):=rfl
theorem pl25_0:FV 0=zs (0,1):=rfl
theorem fq25_0(x:AV):N8 env Ty 0 x=B9 x 0:=rfl
theorem pl25_1:FV 1=zs (1,1):=rfl
theorem fq25_1(x:AV):N8 env Ty 1 x=B9 x 1:=rfl
theorem pt25(cs:List AV)(o:Nat):partOf Ty cs o=if o+2<=cs.length then zs (.agg ((cs.drop o).take 2))else zn:=f9 rfl cs o
theorem ont33{f:TI->OpS}:o7 env 33 f=f Ha:=rfl
theorem A1E:env.ti 33=zs Ha:=rfl
theorem ty33_z:Ha.size=1:=rfl
theorem ty33_b:Ha.bytes=24:=rfl
theorem ty33_d:Ha.desc=.slice 3:=rfl
theorem ft33:flatT Ha=zf:=rfl
theorem ty33_0:Ha.zero=.nilsl:=rfl
theorem pt33(cs:List AV)(o:Nat):partOf Ha cs o=cs[o]?:=V5 rfl cs o
theorem el33:elemOfT env (.slice 3)=zs gA:=rfl
theorem ln33(l:List TypeId)(x:AV)(r:List AV)(K:PK):G3 env .len (33::l) (x::r) K=xS x K:=rfl
theorem ap33(l:List TypeId)(s x:AV)(r:List AV)(K:PK):G3 env .append (33::33::l) (s::x::r) K=j9 gA s x K:=rfl
theorem ix33(x:AV)(i:AV):Hv env Ha x i=Xc gA x i:=rfl
theorem ont34{f:TI->OpS}:o7 env 34 f=f gC:=rfl
theorem A1F:env.ti 34=zs gC:=rfl
theorem ty34_z:gC.size=1:=rfl
theorem ty34_d:gC.desc=.slice 41:=rfl
theorem pt34(cs:List AV)(o:Nat):partOf gC cs o=cs[o]?:=V5 rfl cs o
theorem el34:elemOfT env (.slice 41)=zs Db:=rfl
theorem ln34(l:List TypeId)(x:AV)(r:List AV)(K:PK):G3 env .len (34::l) (x::r) K=xS x K:=rfl
theorem ap34(l:List TypeId)(s x:AV)(r:List AV)(K:PK):G3 env .append (34::34::l) (s::x::r) K=j9 Db s x K:=rfl
theorem ix34(x:AV)(i:AV):Hv env gC x i=Xc Db x i:=rfl
theorem ont36{f:TI->OpS}:o7 env 36 f=f l6:=rfl
theorem FW:env.ti 36=zs l6:=rfl
theorem ty36_z:l6.size=5:=rfl
theorem ty36_b:l6.bytes=80:=rfl
theorem ft36:flatT l6=zf:=rfl
theorem ty36_0:l6.zero=.agg [(.str []),(.int .i64 0),(.int .i64 0),.nilsl,.nilsl]:=rfl
def KO(i:Nat):Option (Nat×Nat):=A6 (Qj [(9,0),(3,1),(3,2),(33,3),(34,4)] i) fun f=>onTI env f.1 zn fun g=>zs (f.2,g.size)
theorem bd36(ps:List (Nat×AV)):U1 env l6 ps=FB (S7 KO ps l6.zero.cells):=rfl
theorem fq36_0(x:AV):N8 env l6 0 x=B9 x 0:=rfl
theorem pl36_1:KO 1=zs (1,1):=rfl
theorem fq36_1(x:AV):N8 env l6 1 x=B9 x 1:=rfl
theorem fq36_2(x:AV):N8 env l6 2 x=B9 x 2:=rfl
theorem fq36_3(x:AV):N8 env l6 3 x=B9 x 3:=rfl
theorem fq36_4(x:AV):N8 env l6 4 x=B9 x 4:=rfl
theorem pt36(cs:List AV)(o:Nat):partOf l6 cs o=if o+5<=cs.length then zs (.agg ((cs.drop o).take 5))else zn:=f9 rfl cs o
theorem ont37{f:TI->OpS}:o7 env 37 f=f gD:=rfl
theorem A1G:env.ti 37=zs gD:=rfl
theorem ty37_z:gD.size=1:=rfl
theorem ty37_d:gD.desc=.slice 65:=rfl
theorem pt37(cs:List AV)(o:Nat):partOf gD cs o=cs[o]?:=V5 rfl cs o
theorem el37:elemOfT env (.slice 65)=zs t7:=rfl
theorem ln37(l:List TypeId)(x:AV)(r:List AV)(K:PK):G3 env .len (37::l) (x::r) K=xS x K:=rfl
theorem ap37(l:List TypeId)(s x:AV)(r:List AV)(K:PK):G3 env .append (37::37::l) (s::x::r) K=j9 t7 s x K:=rfl
theorem ix37(x:AV)(i:AV):Hv env gD x i=Xc t7 x i:=rfl
theorem ont39{f:TI->OpS}:o7 env 39 f=f Nc:=rfl
theorem A1H:env.ti 39=zs Nc:=rfl
theorem ty39_z:Nc.size=4:=rfl
theorem ty39_0:Nc.zero=.agg [(.int .i64 0),(.int .i64 0),(.int .i64 0),(.int .i64 0)]:=rfl
def KP(i:Nat):Option (Nat×Nat):=A6 (Qj [(3,0),(3,1),(3,2),(3,3)] i) fun f=>onTI env f.1 zn fun g=>zs (f.2,g.size)
theorem bd39(ps:List (Nat×AV)):U1 env Nc ps=FB (S7 KP ps Nc.zero.cells):=rfl
theorem pl39_0:KP 0=zs (0,1):=rfl
theorem fq39_0(x:AV):N8 env Nc 0 x=B9 x 0:=rfl
theorem fq39_1(x:AV):N8 env Nc 1 x=B9 x 1:=rfl
theorem fq39_2(x:AV):N8 env Nc 2 x=B9 x 2:=rfl
theorem fq39_3(x:AV):N8 env Nc 3 x=B9 x 3:=rfl
theorem pt39(cs:List AV)(o:Nat):partOf Nc cs o=if o+4<=cs.length then zs (.agg ((cs.drop o).take 4))else zn:=f9 rfl cs o
theorem ont41{f:TI->OpS}:o7 env 41 f=f Db:=rfl
theorem FX:env.ti 41=zs Db:=rfl
theorem ty41_z:Db.size=5:=rfl
theorem ty41_b:Db.bytes=56:=rfl
theorem ft41:flatT Db=zf:=rfl
theorem ty41_0:Db.zero=.agg [.nilsl,(.int .i64 0),(.int .i64 0),(.int .i64 0),(.int .i64 0)]:=rfl
def FY(i:Nat):Option (Nat×Nat):=A6 (Qj [(37,0),(39,1)] i) fun f=>onTI env f.1 zn fun g=>zs (f.2,g.size)
theorem bd41(ps:List (Nat×AV)):U1 env Db ps=FB (S7 FY ps Db.zero.cells):=rfl
theorem pl41_0:FY 0=zs (0,1):=rfl
theorem fq41_0(x:AV):N8 env Db 0 x=B9 x 0:=rfl
theorem pl41_1:FY 1=zs (1,4):=rfl
theorem fq41_1(x:AV):N8 env Db 1 x=B9 x 1:=rfl
theorem pt41(cs:List AV)(o:Nat):partOf Db cs o=if o+5<=cs.length then zs (.agg ((cs.drop o).take 5))else zn:=f9 rfl cs o
theorem ont49{f:TI->OpS}:o7 env 49 f=f yU:=rfl
theorem ty49_d:yU.desc=.slice 33:=rfl
theorem el49:elemOfT env (.slice 33)=zs Ha:=rfl
theorem ln49(l:List TypeId)(x:AV)(r:List AV)(K:PK):G3 env .len (49::l) (x::r) K=xS x K:=rfl
theorem ap49(l:List TypeId)(s x:AV)(r:List AV)(K:PK):G3 env .append (49::49::l) (s::x::r) K=j9 Ha s x K:=rfl
theorem ix49(x:AV)(i:AV):Hv env yU x i=Xc Ha x i:=rfl
theorem ont53{f:TI->OpS}:o7 env 53 f=f uU:=rfl
theorem ln53(l:List TypeId)(x:AV)(r:List AV)(K:PK):G3 env .len (53::l) (x::r) K=xS x K:=rfl
theorem ix53(x:AV)(i:AV):Hv env uU x i=Xc JB x i:=rfl
theorem ont59{f:TI->OpS}:o7 env 59 f=f Cb:=rfl
theorem FZ:env.ti 59=zs Cb:=rfl
theorem ty59_z:Cb.size=4:=rfl
theorem ty59_b:Cb.bytes=40:=rfl
theorem ft59:flatT Cb=zt:=rfl
theorem ty59_0:Cb.zero=.agg [(.str []),(.int .i64 0),(.int .i64 0),(.int .i64 0)]:=rfl
def KQ(i:Nat):Option (Nat×Nat):=A6 (Qj [(9,0),(3,1),(3,2),(3,3)] i) fun f=>onTI env f.1 zn fun g=>zs (f.2,g.size)
theorem bd59(ps:List (Nat×AV)):U1 env Cb ps=FB (S7 KQ ps Cb.zero.cells):=rfl
theorem pl59_1:KQ 1=zs (1,1):=rfl
theorem fq59_1(x:AV):N8 env Cb 1 x=B9 x 1:=rfl
theorem fq59_2(x:AV):N8 env Cb 2 x=B9 x 2:=rfl
theorem pt59(cs:List AV)(o:Nat):partOf Cb cs o=if o+4<=cs.length then zs (.agg ((cs.drop o).take 4))else zn:=f9 rfl cs o
theorem ont65{f:TI->OpS}:o7 env 65 f=f t7:=rfl
theorem GA:env.ti 65=zs t7:=rfl
theorem ty65_z:t7.size=8:=rfl
theorem ty65_b:t7.bytes=88:=rfl
theorem ft65:flatT t7=zf:=rfl
theorem ty65_0:t7.zero=.agg [(.int .i64 0),(.int .i64 0),(.int .i64 0),(.int .i64 0),(.int .i64 0),(.int .i64 0),(.str []),.nilsl]:=rfl
def KR(i:Nat):Option (Nat×Nat):=A6 (Qj [(3,0),(3,1),(3,2),(3,3),(3,4),(3,5),(9,6),(33,7)] i) fun f=>onTI env f.1 zn fun g=>zs (f.2,g.size)
theorem bd65(ps:List (Nat×AV)):U1 env t7 ps=FB (S7 KR ps t7.zero.cells):=rfl
theorem pl65_0:KR 0=zs (0,1):=rfl
theorem fq65_0(x:AV):N8 env t7 0 x=B9 x 0:=rfl
theorem fq65_1(x:AV):N8 env t7 1 x=B9 x 1:=rfl
theorem fq65_2(x:AV):N8 env t7 2 x=B9 x 2:=rfl
theorem fq65_3(x:AV):N8 env t7 3 x=B9 x 3:=rfl
theorem fq65_4(x:AV):N8 env t7 4 x=B9 x 4:=rfl
theorem fq65_5(x:AV):N8 env t7 5 x=B9 x 5:=rfl
theorem fq65_6(x:AV):N8 env t7 6 x=B9 x 6:=rfl
theorem fq65_7(x:AV):N8 env t7 7 x=B9 x 7:=rfl
theorem pt65(cs:List AV)(o:Nat):partOf t7 cs o=if o+8<=cs.length then zs (.agg ((cs.drop o).take 8))else zn:=f9 rfl cs o
theorem ont74{f:TI->OpS}:o7 env 74 f=f cC:=rfl
theorem ty74_z:cC.size=7:=rfl
theorem ty74_0:cC.zero=.agg [.nilsl,.nilsl,(.str []),(.int .i64 0),(.int .i64 0),.nilsl,.nilsl]:=rfl
def GB(i:Nat):Option (Nat×Nat):=A6 (Qj [(25,0),(36,2)] i) fun f=>onTI env f.1 zn fun g=>zs (f.2,g.size)
theorem bd74(ps:List (Nat×AV)):U1 env cC ps=FB (S7 GB ps cC.zero.cells):=rfl
theorem pl74_0:GB 0=zs (0,2):=rfl
theorem fq74_0(x:AV):N8 env cC 0 x=B9 x 0:=rfl
theorem pl74_1:GB 1=zs (2,5):=rfl
theorem fq74_1(x:AV):N8 env cC 1 x=B9 x 2:=rfl
theorem pt74(cs:List AV)(o:Nat):partOf cC cs o=if o+7<=cs.length then zs (.agg ((cs.drop o).take 7))else zn:=f9 rfl cs o
theorem ont113{f:TI->OpS}:o7 env 113 f=f uV:=rfl
theorem ty113_d:uV.desc=.int .i8:=rfl
end
theorem z0z{a b:Prop}(x:a)(y:b):a/\b:=⟨x,y⟩
def XQ:=z0z @e_seq<|z0z @seqP_normal<|z0z @seqP_exit<|z0z @seqP_ret<|z0z @e_skip<|z0z @e_exit<|z0z @e_ret<|z0z @e_reg<|z0z @e_regD<|z0z @e_pre<|z0z @e_cond<|z0z @condP_true<|z0z @condP_false<|z0z @e_block<|z0z @blkP_normal<|z0z @blkP_exit<|z0z @blkP_ret<|z0z @e_post<|z0z @postP_normal<|z0z @postP_exit<|z0z @postP_ret<|z0z @callK_val<|z0z @doP_val<|z0z @doP_call<|z0z @e_nil<|z0z @e_op<|z0z @e_opS<|z0z @e_opY<|z0z @callD_val<|z0z @doD_val<|z0z @doD_call<|z0z @callQ_val<|z0z @doQ_call<|z0z @e_nilD<|z0z @d_op<|z0z @d_opQ<|z0z @d_opS<|z0z @d_opY<|z0z @d_opYQ<|z0z @bodyP_ret<|z0z @bodyP_norm<|z0z @lk_hit<|z0z @lk_cons<|z0z @st_some<|z0z @st_none<|z0z @ov_tmp<|z0z @ov_int<|z0z @ov_bool<|z0z @ov_str<|z0z @ov_nsl<|z0z @ov_func<|z0z @ol_nil<|z0z @ol_cons<|z0z @oq_nil<|z0z @oq_cons<|z0z @en_nil<|z0z @en_cons<|z0z @one_1<|z0z @one_2<|z0z @one_0<|z0z @ofV_some<|z0z @ofO_some<|z0z @pr_move<|z0z @pr_assign<|z0z @pr_pick<|z0z @pick_true<|z0z @pick_false<|z0z @pr_alloc<|z0z @pr_box<|z0z @pr_build<|z0z @pr_buildSl<|z0z @pr_load<|z0z @pr_store<|z0z @pr_nil<|z0z @pr_bin<|z0z @pr_un<|z0z @pr_conv<|z0z @pr_fn<|z0z @pr_fa<|z0z @pr_ia<|z0z @pr_ex<|z0z @pr_bui<|z0z @pr_call<|z0z @pr_callv<|z0z @callP_fn<|z0z @bp_add<|z0z @bp_sub<|z0z @bp_mul<|z0z @bp_eql<|z0z @bp_neq<|z0z @bp_lss<|z0z @bp_leq<|z0z @bp_gtr<|z0z @bp_geq<|z0z @bp_eqlS<|z0z @bp_neqS<|z0z @wt_true<|z0z @wt_false<|z0z @wt_skip<|z0z @as_nat<|z0z @ln_fsl<|z0z @ln_msl<|z0z @ln_nil<|z0z @ix_fsl<|z0z @ix_msl<|z0z @exP_tup<|z0z @ld_f<|z0z @ld_p<|z0z @ldR_some<|z0z @ldE_some<|z0z @tb_nil<|z0z @tb_eq<|z0z @tbE_row<|z0z @te_eq<|z0z @teE_flat<|z0z @teE_row<|z0z @te_fsl<|z0z @ap_eq<|z0z @ap1_some<|z0z @ap2_some<|z0z @cl_int<|z0z @cl_bool<|z0z @cl_str<|z0z @cl_own<|z0z @cl_msl<|z0z @ag_int<|z0z @ag_agg<|z0z @ag_nsl<|z0z @cl_nsl<|z0z @ce_int<|z0z @ce_bool<|z0z @ce_str<|z0z @ce_agg<|z0z @ce_nsl<|z0z @ce_msl<|z0z @ce_own<|z0z @fl_nil<|z0z @fl_cons<|z0z @ro6<|z0z @rwE_row<|z0z @rwE_sub<|z0z @rwS_some<|z0z @rwC_some<|z0z @rwD_some<|z0z @ow_own<|z0z @rt_eq<|z0z @rtE_row<|z0z @rtE_sub<|z0z @ch_eq<|z0z @chE_row<|z0z @chE_sub<|z0z @kp_eq<|z0z @kg_nil<|z0z @kg_row<|z0z @kg_dead<|z0z @kg_sub<|z0z @ks_eq<|z0z @kh_nil<|z0z @kh_row<|z0z @kh_dead<|z0z @kh_sub<|z0z @sb_eq<|z0z @sbE_row<|z0z @sbE_sub<|z0z @besO_sub<|z0z @mf_nil<|z0z @mf_cons<|z0z @mo_nil<|z0z @mo_cons<|z0z @mp_1<|z0z @mp_2<|z0z @mk1_eq<|z0z @mk2_eq<|z0z @sm_eq<|z0z @smE_row<|z0z @smE_row1<|z0z @smE_sub<|z0z @smE_dead<|z0z @mi_eq<|z0z @rs_nil<|z0z @rs_cons<|z0z @rg_0<|z0z @rg_2<|z0z @rp_nil<|z0z @rp_cons<|z0z @po_cons<|z0z @rv_int<|z0z @rv_bool<|z0z @rv_str<|z0z @rv_agg<|z0z @rv_fsl<|z0z @rv_msl<|z0z @rv_ptr<|z0z @rv_nsl<|z0z @rv_fn<|z0z @rl_nil<|z0z @rl_cons<|z0z @rnM_some<|z0z @rnP_some<|z0z @et_eq<|z0z @enE_some<|z0z @rp_row<|z0z @rp_row1<|z0z @rp_dead<|z0z @rp_sub<|z0z @rnS_some<|z0z @rf_int<|z0z @rf_bool<|z0z @rf_str<|z0z @rf_agg<|z0z @rf_fsl<|z0z @rf_msl<|z0z @rf_ptr<|z0z @rf_nsl<|z0z @rf_fn<|z0z @rfl_nil<|z0z @rfl_cons<|z0z @bk_nil<|z0z @bk_cons<|z0z @bv_eq<|z0z @bs_nil<|z0z @bs_cons<|z0z @bc_msl<|z0z @bc_int<|z0z @bc_str<|z0z @lv_agg<|z0z @lv_msl<|z0z @lv_int<|z0z @lv_bool<|z0z @lv_str<|z0z @lv_own<|z0z @lv_nsl<|z0z @hd_cons<|z0z @os_nil<|z0z @os_cons<|z0z @ot_nil<|z0z @ot_own<|z0z @ot_int<|z0z @ot_bool<|z0z @ot_str<|z0z @va_nil<|z0z @va_cons<|z0z @co_some<|z0z @vv_int<|z0z @vv_bool<|z0z @wv_int<|z0z @wv_str<|z0z @agO_some<|z0z @vv_agg<|z0z @vl_nil<|z0z @vl_cons<|z0z @fsO_some<|z0z @vv_msl<|z0z @wv_msl<|z0z @vmE_some<|z0z @fz_nil<|z0z @fz_cons<|z0z @fz_int<|z0z @fz_str<|z0z @fz_agg<|z0z @fz_own<|z0z @nf_int<|z0z @nf_bool<|z0z @nf_str<|z0z @nf_agg<|z0z @nf_own<|z0z @nfl_nil<|z0z @nfl_cons<|z0z @or_nil<|z0z @or_cons<|z0z @on_int<|z0z @on_bool<|z0z @on_str<|z0z @ok_int<|z0z @ok_str<|z0z @ok_msl<|z0z @ok_nsl<|z0z @nr_eq<|z0z @bx_eq<|z0z @wc_agg<|z0z @wc_int<|z0z @wc_bool<|z0z @wc_nsl<|z0z @wc_msl<|z0z @ra_eq<|z0z @raE_0<|z0z @raE_1<|z0z @raE_sub<|z0z @sr_eq<|z0z @srE_row<|z0z @srE_sub<|z0z @srS_some<|z0z @srC_some<|z0z @srD_some<|z0z @pc_agg<|z0z @spR_some<|z0z @spE_some<|z0z @spB_true<|z0z @spB_false<|z0z @spC_true<|z0z @spC_false<|z0z @spO_some<|z0z @spQ_some<|z0z @spS_some<|z0z @rl_1<|z0z @sc_nil<|z0z @sc_clo<|z0z @sc_msl<|z0z @scM_row<|z0z @scK_some<|z0z @rsT_some<|z0z @rsC_val<|z0z @rsO_some<|z0z @rs_0<|z0z @rs_tmp<|z0z @rs_cell<|z0z @ok_fslN<|z0z @cl_fslN<|z0z @ce_fslN<|z0z @rf_fslN<|z0z @rv_fslN<|z0z @fz_fslN<|z0z @vv_fslN<|z0z @wv_fslN<|z0z @ln_fslN<|z0z @ix_fslN<|z0z @lv_fslN<|z0z @te_fslN<|z0z @pf_f<|z0z @pf_p<|z0z @ldW_eq<|z0z @oc_nil<|z0z @oc_own<|z0z @oc_int<|z0z @oc_bool<|z0z @oc_str<|z0z @oc_fslN<|z0z @oc_msl<|z0z @oc_nsl<|z0z @bs_eq<|z0z @bsE_some<|z0z @pl_nil<|z0z @pl_cons<|z0z @plE_some<|z0z @rl_0<|z0z @rl_2<|z0z @rl_3<|z0z @rl_4<|z0z @rl_5<|z0z @rl_7<|z0z @rl_8<|z0z @tk_all<|z0z @fp_ok<|z0z @fbK_some<|z0z @fb_nil<|z0z @fbP_some<|z0z @fb_cons<|z0z @agM_some<|z0z @inpK_val<|z0z @wp_eq<|z0z @wpE_some<|z0z @ap2_nil<|z0z @ro5<|z0z @ro4<|z0z @nc_ptr<|z0z @ro3<|z0z @fl_none<|z0z @Option.map_some.{0,0}<|z0z @List.take_succ_cons.{0}<|z0z @List.take_zero.{0}<|z0z @List.drop_succ_cons.{0}<|z0z @List.drop_zero.{0}<|z0z @Option.map_none.{0,0}<|z0z @List.all_cons.{0}<|z0z @List.all_nil.{0}<|z0z @List.isEmpty_cons.{0}<|z0z @List.isEmpty_nil.{0}<|z0z @List.mem_cons.{0}<|z0z @List.not_mem_nil.{0}<|z0z @or_false<|z0z @false_or<|z0z @or_true<|z0z @true_or<|z0z @not_false_eq_true<|z0z @not_true_eq_false<|z0z @and_true<|z0z @true_and<|z0z @and_self<|z0z @Bool.and_self<|z0z @Bool.and_true<|z0z @Bool.true_and<|z0z @List.set_cons_zero.{0}<|z0z @List.set_cons_succ.{0}<|z0z @List.flatMap_cons.{0,0}<|z0z @List.flatMap_nil.{0,0}<|z0z @List.filter_cons.{0}<|z0z @List.filter_nil.{0}<|z0z @eq_self.{1}<|z0z @List.nodup_cons.{0}<|z0z @List.nodup_nil.{0}<|z0z @Option.isSome_some.{0}<|z0z @Option.isSome_none.{0}<|z0z @Bool.or_true<|z0z @Bool.or_false<|z0z @Bool.true_or<|z0z @Bool.false_or<|z0z @Nat.le_refl<|z0z @Nat.lt_irrefl<|z0z @Nat.not_lt_zero<|z0z @Nat.zero_le<|z0z @decide_eq_true_eq<|z0z @ne_eq.{1}<|z0z @List.cons_append.{0}<|z0z @List.nil_append.{0}<|z0z @List.append_nil.{0}<|z0z @List.length_cons.{0}<|z0z @List.length_nil.{0}<|z0z @List.getElem?_cons_zero.{0}<|z0z @List.getElem?_cons_succ.{0}<|z0z @List.getElem?_nil.{0}<|z0z @Nat.add_zero<|z0z @Bool.not_true<|z0z @Bool.not_false<|z0z @decide_true<|z0z @decide_false<|z0z @Option.some.injEq.{0}<|z0z @Bool.true_eq_false<|z0z @Bool.false_eq_true<|z0z @u_not<|z0z @Option.isNone_some.{0}<|z0z @Option.isNone_none.{0}<|z0z @Bool.and_false<|z0z @Bool.false_and<|z0z @cond_false.{1}<|z0z @cond_true.{1}<|z0z @beq_self_eq_true.{0}<|z0z @bne_self_eq_false.{0}<|z0z @ont3<|z0z @ty3_z<|z0z @ty3_b<|z0z @ty3_d<|z0z @ft3<|z0z @ty3_0<|z0z @pt3<|z0z @ont4<|z0z @ty4_z<|z0z @pt4<|z0z @ont9<|z0z @pt9<|z0z @ont21<|z0z @ty21_d<|z0z @ont22<|z0z @ty22_d<|z0z @pt22<|z0z @el22<|z0z @ln22<|z0z @ap22<|z0z @ix22<|z0z @ont23<|z0z @ty23_z<|z0z @ty23_d<|z0z @pt23<|z0z @el23<|z0z @ln23<|z0z @ap23<|z0z @ix23<|z0z @ont25<|z0z @ty25_z<|z0z @ty25_0<|z0z @bd25<|z0z @pl25_0<|z0z @fq25_0<|z0z @pl25_1<|z0z @fq25_1<|z0z @pt25<|z0z @ont33<|z0z @ty33_z<|z0z @ty33_b<|z0z @ty33_d<|z0z @ft33<|z0z @ty33_0<|z0z @pt33<|z0z @el33<|z0z @ln33<|z0z @ap33<|z0z @ix33<|z0z @ont34<|z0z @ty34_z<|z0z @ty34_d<|z0z @pt34<|z0z @el34<|z0z @ln34<|z0z @ap34<|z0z @ix34<|z0z @ont36<|z0z @ty36_z<|z0z @ty36_b<|z0z @ft36<|z0z @ty36_0<|z0z @bd36<|z0z @fq36_0<|z0z @pl36_1<|z0z @fq36_1<|z0z @fq36_2<|z0z @fq36_3<|z0z @fq36_4<|z0z @pt36<|z0z @ont37<|z0z @ty37_z<|z0z @ty37_d<|z0z @pt37<|z0z @el37<|z0z @ln37<|z0z @ap37<|z0z @ix37<|z0z @ont39<|z0z @ty39_z<|z0z @ty39_0<|z0z @bd39<|z0z @pl39_0<|z0z @fq39_0<|z0z @fq39_1<|z0z @fq39_2<|z0z @fq39_3<|z0z @pt39<|z0z @ont41<|z0z @ty41_z<|z0z @ty41_b<|z0z @ft41<|z0z @ty41_0<|z0z @bd41<|z0z @pl41_0<|z0z @fq41_0<|z0z @pl41_1<|z0z @fq41_1<|z0z @pt41<|z0z @ont49<|z0z @ty49_d<|z0z @el49<|z0z @ln49<|z0z @ap49<|z0z @ix49<|z0z @ont53<|z0z @ln53<|z0z @ix53<|z0z @ont59<|z0z @ty59_z<|z0z @ty59_b<|z0z @ft59<|z0z @ty59_0<|z0z @bd59<|z0z @pl59_1<|z0z @fq59_1<|z0z @fq59_2<|z0z @pt59<|z0z @ont65<|z0z @ty65_z<|z0z @ty65_b<|z0z @ft65<|z0z @ty65_0<|z0z @bd65<|z0z @pl65_0<|z0z @fq65_0<|z0z @fq65_1<|z0z @fq65_2<|z0z @fq65_3<|z0z @fq65_4<|z0z @fq65_5<|z0z @fq65_6<|z0z @fq65_7<|z0z @pt65<|z0z @ont74<|z0z @ty74_z<|z0z @ty74_0<|z0z @bd74<|z0z @pl74_0<|z0z @fq74_0<|z0z @pl74_1<|z0z @fq74_1<|z0z @pt74<|z0z @ont113<|z0z @ty113_d<|z0z @xo_eq<|z0z @xm_eq<|z0z @xg_eq<|z0z @tm_eq<|z0z @ki_eq<|z0z @cl_eq<|z0z @xa_eq<|z0z @xl_eq<|z0z @xf_eq<|z0z @xi_eq<|z0z @xn_eq<|z0z @xs_eq<|z0z @xb_eq<|z0z @gl_eq<|z0z @gf_eq<|z0z @R_eq<|z0z @qs_eq<|z0z @kf_eq<|@kt_eq
def XP:=And.intro XQ (And.intro @sp_eq Nat.zero_add)
end Go.Proofs.AmEnv
