/- The tables of this program's types and functions, facts on them, and the rules. Conditions: none. -/
import Derived.Test.YtekhlbomopiemaaCode
set_option linter.unusedVariables false
set_option linter.unusedSimpArgs false
set_option linter.unusedSectionVars false
set_option linter.defProp false
set_option maxRecDepth 100000
set_option maxHeartbeats 4000000
open Option renaming some→zs,none→zn
open Bool renaming true→zt,false→zf
namespace Go.Proofs.AmEnv
abbrev C4{α:Type}(t m:Nat)(a b:α):α:=bif Nat.blt t m then a else b
abbrev C2{α:Type}(t m:Nat)(a:α):Option α:=bif Nat.beq t m then zs a else zn
open Go.AM
noncomputable def ty2:TI:=⟨.int .i64,1,8,.int .i64 0⟩
noncomputable def ty3:TI:=⟨.int .i64,1,8,.int .i64 0⟩
noncomputable def ty4:TI:=⟨.bool,1,1,.bool zf⟩
noncomputable def MQ:TI:=⟨.string,1,16,.str []⟩
noncomputable def A0x:TI:=⟨.iface,1,16,.niliface⟩
noncomputable def HX:TI:=⟨.int .i32,1,4,.int .i32 0⟩
noncomputable def mC:TI:=⟨.slice 71,1,24,.nilsl⟩
noncomputable def mD:TI:=⟨.slice 34,1,24,.nilsl⟩
noncomputable def Uc:TI:=⟨.struct [(22,0),(23,1)] zf,2,48,.agg [.nilsl,.nilsl]⟩
noncomputable def Hs:TI:=⟨.slice 3,1,24,.nilsl⟩
noncomputable def Ud:TI:=⟨.struct [(3,0),(3,1),(3,2),(3,3),(3,4),(26,5)] zf,6,64,.agg [(.int .i64 0),(.int .i64 0),(.int .i64 0),(.int .i64 0),(.int .i64 0),.nilsl]⟩
noncomputable def gR:TI:=⟨.slice 46,1,24,.nilsl⟩
noncomputable def A0y:TI:=⟨.struct [(9,0),(3,1),(3,2),(26,3),(32,4)] zf,5,80,.agg [(.str []),(.int .i64 0),(.int .i64 0),.nilsl,.nilsl]⟩
noncomputable def Bl:TI:=⟨.struct [(9,0),(3,1),(3,2),(26,3),(32,4)] zf,5,80,.agg [(.str []),(.int .i64 0),(.int .i64 0),.nilsl,.nilsl]⟩
noncomputable def mE:TI:=⟨.slice 38,1,24,.nilsl⟩
noncomputable def A0z:TI:=⟨.func,1,8,.nilfn⟩
noncomputable def Lx:TI:=⟨.slice 4,1,24,.nilsl⟩
noncomputable def v8:TI:=⟨.struct [(3,0),(3,1),(3,2),(3,3),(3,4),(3,5),(9,6),(26,7)] zf,8,88,.agg [(.int .i64 0),(.int .i64 0),(.int .i64 0),(.int .i64 0),(.int .i64 0),(.int .i64 0),(.str []),.nilsl]⟩
noncomputable def gS:TI:=⟨.slice 41,1,24,.nilsl⟩
noncomputable def A1A:TI:=⟨.struct [(3,0),(3,1),(3,2),(3,3)] zt,4,32,.agg [(.int .i64 0),(.int .i64 0),(.int .i64 0),(.int .i64 0)]⟩
noncomputable def Ue:TI:=⟨.struct [(3,0),(3,1),(3,2),(3,3)] zt,4,32,.agg [(.int .i64 0),(.int .i64 0),(.int .i64 0),(.int .i64 0)]⟩
noncomputable def A1B:TI:=⟨.struct [(42,0),(44,1)] zf,5,56,.agg [.nilsl,(.int .i64 0),(.int .i64 0),(.int .i64 0),(.int .i64 0)]⟩
noncomputable def Ec:TI:=⟨.struct [(42,0),(44,1)] zf,5,56,.agg [.nilsl,(.int .i64 0),(.int .i64 0),(.int .i64 0),(.int .i64 0)]⟩
noncomputable def A1C:TI:=⟨.struct [(26,0),(3,1),(3,2)] zf,3,40,.agg [.nilsl,(.int .i64 0),(.int .i64 0)]⟩
noncomputable def Xs:TI:=⟨.struct [(26,0),(3,1),(3,2)] zf,3,40,.agg [.nilsl,(.int .i64 0),(.int .i64 0)]⟩
noncomputable def A1D:TI:=⟨.int .i64,1,8,.int .i64 0⟩
noncomputable def A1E:TI:=⟨.func,1,8,.nilfn⟩
noncomputable def A1F:TI:=⟨.func,1,8,.nilfn⟩
noncomputable def A1G:TI:=⟨.func,1,8,.nilfn⟩
noncomputable def BZ:TI:=⟨.func,1,8,.nilfn⟩
noncomputable def xB:TI:=⟨.ptr 69,1,8,.nilptr⟩
noncomputable def sW:TI:=⟨.slice 26,1,24,.nilsl⟩
noncomputable def Qm:TI:=⟨.struct [(25,0),(26,2),(3,3),(67,4),(48,5),(3,8)] zf,9,152,.agg [.nilsl,.nilsl,.nilsl,(.int .i64 0),.nilsl,.nilsl,(.int .i64 0),(.int .i64 0),(.int .i64 0)]⟩
noncomputable def Ed:TI:=⟨.struct [(9,0),(3,1),(3,2),(3,3)] zt,4,40,.agg [(.str []),(.int .i64 0),(.int .i64 0),(.int .i64 0)]⟩
noncomputable def gT:TI:=⟨.struct [(3,0),(3,1)] zt,2,16,.agg [(.int .i64 0),(.int .i64 0)]⟩
noncomputable def A1H:TI:=⟨.func,1,8,.nilfn⟩
noncomputable def cR:TI:=⟨.struct [(25,0),(34,2)] zf,7,128,.agg [.nilsl,.nilsl,(.str []),(.int .i64 0),(.int .i64 0),.nilsl,.nilsl]⟩
noncomputable def A1I:TI:=⟨.func,1,8,.nilfn⟩
noncomputable def A1J:TI:=⟨.func,1,8,.nilfn⟩
noncomputable def A1K:TI:=⟨.func,1,8,.nilfn⟩
noncomputable def A1L:TI:=⟨.func,1,8,.nilfn⟩
noncomputable def MR:TI:=⟨.func,1,8,.nilfn⟩
noncomputable def MS:TI:=⟨.func,1,8,.nilfn⟩
noncomputable def MT:TI:=⟨.func,1,8,.nilfn⟩
noncomputable def xC:TI:=⟨.int .i8,1,1,.int .i8 0⟩
noncomputable def MU:TI:=⟨.func,1,8,.nilfn⟩
noncomputable def xD:TI:=⟨.int .u64,1,8,.int .u64 0⟩
noncomputable def ti(t:Nat):Option TI:=
 C4 t 47 (C4 t 32 (C4 t 21 (C4 t 4 (C4 t 3 (C2 t 2 ty2) (C2 t 3 ty3)) (C4 t 9 (C2 t 4 ty4) (C4 t 20 (C2 t 9 MQ) (C2 t 20 A0x)))) (C4 t 25 (C4 t 22 (C2 t 21 HX) (C4 t 23 (C2 t 22 mC) (C2 t 23 mD))) (C4 t 26 (C2 t 25 Uc) (C4 t 28 (C2 t 26 Hs) (C2 t 28 Ud))))) (C4 t 41 (C4 t 35 (C4 t 33 (C2 t 32 gR) (C4 t 34 (C2 t 33 A0y) (C2 t 34 Bl))) (C4 t 37 (C2 t 35 mE) (C4 t 38 (C2 t 37 A0z) (C2 t 38 Lx)))) (C4 t 44 (C4 t 42 (C2 t 41 v8) (C4 t 43 (C2 t 42 gS) (C2 t 43 A1A))) (C4 t 45 (C2 t 44 Ue) (C4 t 46 (C2 t 45 A1B) (C2 t 46 Ec)))))) (C4 t 76 (C4 t 63 (C4 t 60 (C4 t 48 (C2 t 47 A1C) (C4 t 50 (C2 t 48 Xs) (C2 t 50 A1D))) (C4 t 61 (C2 t 60 A1E) (C4 t 62 (C2 t 61 A1F) (C2 t 62 A1G)))) (C4 t 69 (C4 t 66 (C2 t 63 BZ) (C4 t 67 (C2 t 66 xB) (C2 t 67 sW))) (C4 t 71 (C2 t 69 Qm) (C4 t 73 (C2 t 71 Ed) (C2 t 73 gT))))) (C4 t 105 (C4 t 92 (C4 t 78 (C2 t 76 A1H) (C4 t 80 (C2 t 78 cR) (C2 t 80 A1I))) (C4 t 94 (C2 t 92 A1J) (C4 t 97 (C2 t 94 A1K) (C2 t 97 A1L)))) (C4 t 110 (C4 t 106 (C2 t 105 MR) (C4 t 109 (C2 t 106 MS) (C2 t 109 MT))) (C4 t 124 (C2 t 110 xC) (C4 t 125 (C2 t 124 MU) (C2 t 125 xD))))))
noncomputable def fn(f:Nat):Option FI:=
 C4 f 40 (C4 f 21 (C4 f 12 (C4 f 7 (C4 f 5 (C4 f 4 (C2 f 3 fi3) (C2 f 4 fi4)) (C4 f 6 (C2 f 5 fi5) (C2 f 6 fi6))) (C4 f 9 (C4 f 8 (C2 f 7 fi7) (C2 f 8 fi8)) (C4 f 10 (C2 f 9 fi9) (C4 f 11 (C2 f 10 WM) (C2 f 11 WO))))) (C4 f 16 (C4 f 14 (C4 f 13 (C2 f 12 WQ) (C2 f 13 WS)) (C4 f 15 (C2 f 14 WU) (C2 f 15 WW))) (C4 f 18 (C4 f 17 (C2 f 16 WY) (C2 f 17 XA)) (C4 f 19 (C2 f 18 XD) (C4 f 20 (C2 f 19 XF) (C2 f 20 XH)))))) (C4 f 30 (C4 f 25 (C4 f 23 (C4 f 22 (C2 f 21 XJ) (C2 f 22 XL)) (C4 f 24 (C2 f 23 XN) (C2 f 24 XS))) (C4 f 27 (C4 f 26 (C2 f 25 XU) (C2 f 26 XW)) (C4 f 28 (C2 f 27 XY) (C4 f 29 (C2 f 28 YA) (C2 f 29 YC))))) (C4 f 35 (C4 f 32 (C4 f 31 (C2 f 30 YE) (C2 f 31 YG)) (C4 f 33 (C2 f 32 YI) (C4 f 34 (C2 f 33 YL) (C2 f 34 YN)))) (C4 f 37 (C4 f 36 (C2 f 35 YQ) (C2 f 36 YS)) (C4 f 38 (C2 f 37 YU) (C4 f 39 (C2 f 38 YW) (C2 f 39 YY))))))) (C4 f 58 (C4 f 49 (C4 f 44 (C4 f 42 (C4 f 41 (C2 f 40 ZA) (C2 f 41 ZC)) (C4 f 43 (C2 f 42 ZE) (C2 f 43 ZG))) (C4 f 46 (C4 f 45 (C2 f 44 ZI) (C2 f 45 ZK)) (C4 f 47 (C2 f 46 ZM) (C4 f 48 (C2 f 47 ZO) (C2 f 48 ZR))))) (C4 f 53 (C4 f 51 (C4 f 50 (C2 f 49 ZT) (C2 f 50 ZV)) (C4 f 52 (C2 f 51 ZX) (C2 f 52 ZZ))) (C4 f 55 (C4 f 54 (C2 f 53 A0B) (C2 f 54 A0D)) (C4 f 56 (C2 f 55 A0F) (C4 f 57 (C2 f 56 A0H) (C2 f 57 A0J)))))) (C4 f 68 (C4 f 62 (C4 f 60 (C4 f 59 (C2 f 58 A0L) (C2 f 59 A0N)) (C4 f 61 (C2 f 60 A0P) (C2 f 61 A0R))) (C4 f 65 (C4 f 63 (C2 f 62 A0T) (C2 f 63 A0V)) (C4 f 66 (C2 f 65 A0X) (C4 f 67 (C2 f 66 A0Z) (C2 f 67 A0b))))) (C4 f 73 (C4 f 70 (C4 f 69 (C2 f 68 A0d) (C2 f 69 A0f)) (C4 f 71 (C2 f 70 A0h) (C4 f 72 (C2 f 71 A0j) (C2 f 72 A0l)))) (C4 f 76 (C4 f 74 (C2 f 73 A0n) (C2 f 74 A0p)) (C4 f 77 (C2 f 76 A0r) (C4 f 78 (C2 f 77 A0t) (C2 f 78 A0v)))))))
noncomputable def A0:Env:=⟨ti,fn,fun _=>zn,fun f=>Nat.beq f 64,zs 0,fun _=>zf,fun _=>zn,fun _ _=>zf⟩
noncomputable section
def A2(f:Nat):Option PFn:=C4 f 40 (C4 f 21 (C4 f 12 (C4 f 7 (C4 f 5 (C4 f 4 (C2 f 3 pf3) (C2 f 4 pf4)) (C4 f 6 (C2 f 5 pf5) (C2 f 6 pf6))) (C4 f 9 (C4 f 8 (C2 f 7 pf7) (C2 f 8 pf8)) (C4 f 10 (C2 f 9 pf9) (C4 f 11 (C2 f 10 WN) (C2 f 11 WP))))) (C4 f 16 (C4 f 14 (C4 f 13 (C2 f 12 WR) (C2 f 13 WT)) (C4 f 15 (C2 f 14 WV) (C2 f 15 WX))) (C4 f 18 (C4 f 17 (C2 f 16 WZ) (C2 f 17 XB)) (C4 f 19 (C2 f 18 XE) (C4 f 20 (C2 f 19 XG) (C2 f 20 XI)))))) (C4 f 30 (C4 f 25 (C4 f 23 (C4 f 22 (C2 f 21 XK) (C2 f 22 XM)) (C4 f 24 (C2 f 23 XO) (C2 f 24 XT))) (C4 f 27 (C4 f 26 (C2 f 25 XV) (C2 f 26 XX)) (C4 f 28 (C2 f 27 XZ) (C4 f 29 (C2 f 28 YB) (C2 f 29 YD))))) (C4 f 35 (C4 f 32 (C4 f 31 (C2 f 30 YF) (C2 f 31 YH)) (C4 f 33 (C2 f 32 YJ) (C4 f 34 (C2 f 33 YM) (C2 f 34 YO)))) (C4 f 37 (C4 f 36 (C2 f 35 YR) (C2 f 36 YT)) (C4 f 38 (C2 f 37 YV) (C4 f 39 (C2 f 38 YX) (C2 f 39 YZ))))))) (C4 f 58 (C4 f 49 (C4 f 44 (C4 f 42 (C4 f 41 (C2 f 40 ZB) (C2 f 41 ZD)) (C4 f 43 (C2 f 42 ZF) (C2 f 43 ZH))) (C4 f 46 (C4 f 45 (C2 f 44 ZJ) (C2 f 45 ZL)) (C4 f 47 (C2 f 46 ZN) (C4 f 48 (C2 f 47 ZP) (C2 f 48 ZS))))) (C4 f 53 (C4 f 51 (C4 f 50 (C2 f 49 ZU) (C2 f 50 ZW)) (C4 f 52 (C2 f 51 ZY) (C2 f 52 A0A))) (C4 f 55 (C4 f 54 (C2 f 53 A0C) (C2 f 54 A0E)) (C4 f 56 (C2 f 55 A0G) (C4 f 57 (C2 f 56 A0I) (C2 f 57 A0K)))))) (C4 f 68 (C4 f 62 (C4 f 60 (C4 f 59 (C2 f 58 A0M) (C2 f 59 A0O)) (C4 f 61 (C2 f 60 A0Q) (C2 f 61 A0S))) (C4 f 65 (C4 f 63 (C2 f 62 A0U) (C2 f 63 A0W)) (C4 f 66 (C2 f 65 A0Y) (C4 f 67 (C2 f 66 A0a) (C2 f 67 A0c))))) (C4 f 73 (C4 f 70 (C4 f 69 (C2 f 68 A0e) (C2 f 69 A0g)) (C4 f 71 (C2 f 70 A0i) (C4 f 72 (C2 f 71 A0k) (C2 f 72 A0m)))) (C4 f 76 (C4 f 74 (C2 f 73 A0o) (C2 f 74 A0q)) (C4 f 77 (C2 f 76 A0s) (C4 f 78 (C2 f 77 A0u) (C2 f 78 A0w)))))))
end
end Go.Proofs.AmEnv
set_option maxRecDepth 100000
set_option linter.unusedVariables false
namespace Go.Proofs.AmEnv
open Go Go.AM
noncomputable section
theorem ont2{f:TI->OpS}:X8 A0 2 f=f ty2:=rfl
theorem ont3{f:TI->OpS}:X8 A0 3 f=f ty3:=rfl
theorem ti3:A0.ti 3=zs ty3:=rfl
theorem ty3_z:ty3.size=1:=rfl
theorem ty3_b:ty3.bytes=8:=rfl
theorem ty3_d:ty3.desc=.int .i64:=rfl
theorem ft3:flatT ty3=zt:=rfl
theorem ty3_0:ty3.zero=.int .i64 0:=rfl
theorem pt3(cs:List AV)(o:Nat):partOf ty3 cs o=cs[o]?:=I3 rfl cs o
theorem ont4{f:TI->OpS}:X8 A0 4 f=f ty4:=rfl
theorem ty4_z:ty4.size=1:=rfl
theorem ty4_b:ty4.bytes=1:=rfl
theorem ty4_0:ty4.zero=.bool zf:=rfl
theorem pt4(cs:List AV)(o:Nat):partOf ty4 cs o=cs[o]?:=I3 rfl cs o
theorem ont9{f:TI->OpS}:X8 A0 9 f=f MQ:=rfl
theorem ti9:A0.ti 9=zs MQ:=rfl
theorem pt9(cs:List AV)(o:Nat):partOf MQ cs o=cs[o]?:=I3 rfl cs o
theorem ont21{f:TI->OpS}:X8 A0 21 f=f HX:=rfl
theorem ty21_d:HX.desc=.int .i32:=rfl
theorem ont22{f:TI->OpS}:X8 A0 22 f=f mC:=rfl
theorem A1M:A0.ti 22=zs mC:=rfl
theorem ty22_d:mC.desc=.slice 71:=rfl
theorem pt22(cs:List AV)(o:Nat):partOf mC cs o=cs[o]?:=I3 rfl cs o
theorem el22:elemOfT A0 (.slice 71)=zs Ed:=rfl
theorem ln22(l:List TypeId)(x:AV)(r:List AV)(K:PK):E0 A0 .len (22::l) (x::r) K=BH x K:=rfl
theorem ap22(l:List TypeId)(s x:AV)(r:List AV)(K:PK):E0 A0 .append (22::22::l) (s::x::r) K=U5 Ed s x K:=rfl
theorem ix22(x:AV)(i:AV):Gd A0 mC x i=Pb Ed x i:=rfl
theorem ont23{f:TI->OpS}:X8 A0 23 f=f mD:=rfl
theorem A1N:A0.ti 23=zs mD:=rfl
theorem ty23_d:mD.desc=.slice 34:=rfl
theorem pt23(cs:List AV)(o:Nat):partOf mD cs o=cs[o]?:=I3 rfl cs o
theorem el23:elemOfT A0 (.slice 34)=zs Bl:=rfl
theorem ln23(l:List TypeId)(x:AV)(r:List AV)(K:PK):E0 A0 .len (23::l) (x::r) K=BH x K:=rfl
theorem ap23(l:List TypeId)(s x:AV)(r:List AV)(K:PK):E0 A0 .append (23::23::l) (s::x::r) K=U5 Bl s x K:=rfl
theorem ix23(x:AV)(i:AV):Gd A0 mD x i=Pb Bl x i:=rfl
theorem ont25{f:TI->OpS}:X8 A0 25 f=f Uc:=rfl
theorem A1O:A0.ti 25=zs Uc:=rfl
theorem ty25_z:Uc.size=2:=rfl
theorem ty25_0:Uc.zero=.agg [.nilsl,.nilsl]:=rfl
def HY(i:Nat):Option (Nat×Nat):=A6 (Qh [(22,0),(23,1)] i) fun f=>onTI A0 f.1 zn fun g=>zs (f.2,g.size)
theorem bd25(ps:List (Nat×AV)):R9 A0 Uc ps=HF (R2 HY ps Uc.zero.cells):=rfl
theorem pl25_0:HY 0=zs (0,1):=rfl
theorem fq25_0(x:AV):E6 A0 Uc 0 x=B0 x 0:=rfl
theorem pl25_1:HY 1=zs (1,1):=rfl
theorem fq25_1(x:AV):E6 A0 Uc 1 x=B0 x 1:=rfl
theorem pt25(cs:List AV)(o:Nat):partOf Uc cs o=if o+2<=cs.length then zs (.agg ((cs.drop o).take 2))else zn:=U6 rfl cs o
theorem ont26{f:TI->OpS}:X8 A0 26 f=f Hs:=rfl
theorem A1P:A0.ti 26=zs Hs:=rfl
theorem ty26_z:Hs.size=1:=rfl
theorem ty26_b:Hs.bytes=24:=rfl
theorem ty26_d:Hs.desc=.slice 3:=rfl
theorem ft26:flatT Hs=zf:=rfl
theorem ty26_0:Hs.zero=.nilsl:=rfl
theorem pt26(cs:List AV)(o:Nat):partOf Hs cs o=cs[o]?:=I3 rfl cs o
theorem el26:elemOfT A0 (.slice 3)=zs ty3:=rfl
theorem ln26(l:List TypeId)(x:AV)(r:List AV)(K:PK):E0 A0 .len (26::l) (x::r) K=BH x K:=rfl
theorem ap26(l:List TypeId)(s x:AV)(r:List AV)(K:PK):E0 A0 .append (26::26::l) (s::x::r) K=U5 ty3 s x K:=rfl
theorem ix26(x:AV)(i:AV):Gd A0 Hs x i=Pb ty3 x i:=rfl
theorem ont28{f:TI->OpS}:X8 A0 28 f=f Ud:=rfl
theorem A1Q:A0.ti 28=zs Ud:=rfl
theorem ty28_z:Ud.size=6:=rfl
theorem fq28_0(x:AV):E6 A0 Ud 0 x=B0 x 0:=rfl
theorem fq28_1(x:AV):E6 A0 Ud 1 x=B0 x 1:=rfl
theorem fq28_2(x:AV):E6 A0 Ud 2 x=B0 x 2:=rfl
theorem fq28_3(x:AV):E6 A0 Ud 3 x=B0 x 3:=rfl
theorem fq28_4(x:AV):E6 A0 Ud 4 x=B0 x 4:=rfl
theorem fq28_5(x:AV):E6 A0 Ud 5 x=B0 x 5:=rfl
theorem ont32{f:TI->OpS}:X8 A0 32 f=f gR:=rfl
theorem A1R:A0.ti 32=zs gR:=rfl
theorem ty32_z:gR.size=1:=rfl
theorem ty32_d:gR.desc=.slice 46:=rfl
theorem pt32(cs:List AV)(o:Nat):partOf gR cs o=cs[o]?:=I3 rfl cs o
theorem el32:elemOfT A0 (.slice 46)=zs Ec:=rfl
theorem ln32(l:List TypeId)(x:AV)(r:List AV)(K:PK):E0 A0 .len (32::l) (x::r) K=BH x K:=rfl
theorem ap32(l:List TypeId)(s x:AV)(r:List AV)(K:PK):E0 A0 .append (32::32::l) (s::x::r) K=U5 Ec s x K:=rfl
theorem ix32(x:AV)(i:AV):Gd A0 gR x i=Pb Ec x i:=rfl
theorem ont34{f:TI->OpS}:X8 A0 34 f=f Bl:=rfl
theorem HZ:A0.ti 34=zs Bl:=rfl
theorem ty34_z:Bl.size=5:=rfl
theorem ty34_b:Bl.bytes=80:=rfl
theorem ft34:flatT Bl=zf:=rfl
theorem ty34_0:Bl.zero=.agg [(.str []),(.int .i64 0),(.int .i64 0),.nilsl,.nilsl]:=rfl
theorem fq34_0(x:AV):E6 A0 Bl 0 x=B0 x 0:=rfl
theorem fq34_1(x:AV):E6 A0 Bl 1 x=B0 x 1:=rfl
theorem fq34_2(x:AV):E6 A0 Bl 2 x=B0 x 2:=rfl
theorem fq34_3(x:AV):E6 A0 Bl 3 x=B0 x 3:=rfl
theorem fq34_4(x:AV):E6 A0 Bl 4 x=B0 x 4:=rfl
theorem pt34(cs:List AV)(o:Nat):partOf Bl cs o=if o+5<=cs.length then zs (.agg ((cs.drop o).take 5))else zn:=U6 rfl cs o
theorem ont35{f:TI->OpS}:X8 A0 35 f=f mE:=rfl
theorem ty35_z:mE.size=1:=rfl
theorem ty35_d:mE.desc=.slice 38:=rfl
theorem ty35_0:mE.zero=.nilsl:=rfl
theorem pt35(cs:List AV)(o:Nat):partOf mE cs o=cs[o]?:=I3 rfl cs o
theorem el35:elemOfT A0 (.slice 38)=zs Lx:=rfl
theorem ln35(l:List TypeId)(x:AV)(r:List AV)(K:PK):E0 A0 .len (35::l) (x::r) K=BH x K:=rfl
theorem ap35(l:List TypeId)(s x:AV)(r:List AV)(K:PK):E0 A0 .append (35::35::l) (s::x::r) K=U5 Lx s x K:=rfl
theorem ix35(x:AV)(i:AV):Gd A0 mE x i=Pb Lx x i:=rfl
theorem ont38{f:TI->OpS}:X8 A0 38 f=f Lx:=rfl
theorem ty38_z:Lx.size=1:=rfl
theorem ty38_b:Lx.bytes=24:=rfl
theorem ty38_d:Lx.desc=.slice 4:=rfl
theorem ft38:flatT Lx=zf:=rfl
theorem ty38_0:Lx.zero=.nilsl:=rfl
theorem pt38(cs:List AV)(o:Nat):partOf Lx cs o=cs[o]?:=I3 rfl cs o
theorem el38:elemOfT A0 (.slice 4)=zs ty4:=rfl
theorem ln38(l:List TypeId)(x:AV)(r:List AV)(K:PK):E0 A0 .len (38::l) (x::r) K=BH x K:=rfl
theorem ap38(l:List TypeId)(s x:AV)(r:List AV)(K:PK):E0 A0 .append (38::38::l) (s::x::r) K=U5 ty4 s x K:=rfl
theorem ix38(x:AV)(i:AV):Gd A0 Lx x i=Pb ty4 x i:=rfl
theorem ont41{f:TI->OpS}:X8 A0 41 f=f v8:=rfl
theorem IA:A0.ti 41=zs v8:=rfl
theorem ty41_z:v8.size=8:=rfl
theorem ty41_b:v8.bytes=88:=rfl
theorem ft41:flatT v8=zf:=rfl
theorem ty41_0:v8.zero=.agg [(.int .i64 0),(.int .i64 0),(.int .i64 0),(.int .i64 0),(.int .i64 0),(.int .i64 0),(.str []),.nilsl]:=rfl
def CA(i:Nat):Option (Nat×Nat):=A6 (Qh [(3,0),(3,1),(3,2),(3,3),(3,4),(3,5),(9,6),(26,7)] i) fun f=>onTI A0 f.1 zn fun g=>zs (f.2,g.size)
theorem bd41(ps:List (Nat×AV)):R9 A0 v8 ps=HF (R2 CA ps v8.zero.cells):=rfl
theorem pl41_0:CA 0=zs (0,1):=rfl
theorem fq41_0(x:AV):E6 A0 v8 0 x=B0 x 0:=rfl
theorem fq41_1(x:AV):E6 A0 v8 1 x=B0 x 1:=rfl
theorem pl41_2:CA 2=zs (2,1):=rfl
theorem fq41_2(x:AV):E6 A0 v8 2 x=B0 x 2:=rfl
theorem fq41_3(x:AV):E6 A0 v8 3 x=B0 x 3:=rfl
theorem fq41_4(x:AV):E6 A0 v8 4 x=B0 x 4:=rfl
theorem pl41_5:CA 5=zs (5,1):=rfl
theorem fq41_5(x:AV):E6 A0 v8 5 x=B0 x 5:=rfl
theorem fq41_6(x:AV):E6 A0 v8 6 x=B0 x 6:=rfl
theorem fq41_7(x:AV):E6 A0 v8 7 x=B0 x 7:=rfl
theorem pt41(cs:List AV)(o:Nat):partOf v8 cs o=if o+8<=cs.length then zs (.agg ((cs.drop o).take 8))else zn:=U6 rfl cs o
theorem ont42{f:TI->OpS}:X8 A0 42 f=f gS:=rfl
theorem A1S:A0.ti 42=zs gS:=rfl
theorem ty42_z:gS.size=1:=rfl
theorem ty42_d:gS.desc=.slice 41:=rfl
theorem pt42(cs:List AV)(o:Nat):partOf gS cs o=cs[o]?:=I3 rfl cs o
theorem el42:elemOfT A0 (.slice 41)=zs v8:=rfl
theorem ln42(l:List TypeId)(x:AV)(r:List AV)(K:PK):E0 A0 .len (42::l) (x::r) K=BH x K:=rfl
theorem ap42(l:List TypeId)(s x:AV)(r:List AV)(K:PK):E0 A0 .append (42::42::l) (s::x::r) K=U5 v8 s x K:=rfl
theorem ix42(x:AV)(i:AV):Gd A0 gS x i=Pb v8 x i:=rfl
theorem ont44{f:TI->OpS}:X8 A0 44 f=f Ue:=rfl
theorem A1T:A0.ti 44=zs Ue:=rfl
theorem ty44_z:Ue.size=4:=rfl
theorem ty44_0:Ue.zero=.agg [(.int .i64 0),(.int .i64 0),(.int .i64 0),(.int .i64 0)]:=rfl
theorem fq44_0(x:AV):E6 A0 Ue 0 x=B0 x 0:=rfl
theorem fq44_1(x:AV):E6 A0 Ue 1 x=B0 x 1:=rfl
theorem fq44_2(x:AV):E6 A0 Ue 2 x=B0 x 2:=rfl
theorem fq44_3(x:AV):E6 A0 Ue 3 x=B0 x 3:=rfl
theorem pt44(cs:List AV)(o:Nat):partOf Ue cs o=if o+4<=cs.length then zs (.agg ((cs.drop o).take 4))else zn:=U6 rfl cs o
theorem ont46{f:TI->OpS}:X8 A0 46 f=f Ec:=rfl
theorem IB:A0.ti 46=zs Ec:=rfl
theorem ty46_z:Ec.size=5:=rfl
theorem ty46_b:Ec.bytes=56:=rfl
theorem ft46:flatT Ec=zf:=rfl
theorem ty46_0:Ec.zero=.agg [.nilsl,(.int .i64 0),(.int .i64 0),(.int .i64 0),(.int .i64 0)]:=rfl
def ID(i:Nat):Option (Nat×Nat):=A6 (Qh [(42,0),(44,1)] i) fun f=>onTI A0 f.1 zn fun g=>zs (f.2,g.size)
theorem bd46(ps:List (Nat×AV)):R9 A0 Ec ps=HF (R2 ID ps Ec.zero.cells):=rfl
theorem pl46_0:ID 0=zs (0,1):=rfl
theorem fq46_0(x:AV):E6 A0 Ec 0 x=B0 x 0:=rfl
theorem pl46_1:ID 1=zs (1,4):=rfl
theorem fq46_1(x:AV):E6 A0 Ec 1 x=B0 x 1:=rfl
theorem pt46(cs:List AV)(o:Nat):partOf Ec cs o=if o+5<=cs.length then zs (.agg ((cs.drop o).take 5))else zn:=U6 rfl cs o
theorem ont48{f:TI->OpS}:X8 A0 48 f=f Xs:=rfl
theorem ty48_z:Xs.size=3:=rfl
theorem ty48_0:Xs.zero=.agg [.nilsl,(.int .i64 0),(.int .i64 0)]:=rfl
def CB(i:Nat):Option (Nat×Nat):=A6 (Qh [(26,0),(3,1),(3,2)] i) fun f=>onTI A0 f.1 zn fun g=>zs (f.2,g.size)
theorem bd48(ps:List (Nat×AV)):R9 A0 Xs ps=HF (R2 CB ps Xs.zero.cells):=rfl
theorem pl48_0:CB 0=zs (0,1):=rfl
theorem fq48_0(x:AV):E6 A0 Xs 0 x=B0 x 0:=rfl
theorem pl48_1:CB 1=zs (1,1):=rfl
theorem fq48_1(x:AV):E6 A0 Xs 1 x=B0 x 1:=rfl
theorem pl48_2:CB 2=zs (2,1):=rfl
theorem fq48_2(x:AV):E6 A0 Xs 2 x=B0 x 2:=rfl
theorem pt48(cs:List AV)(o:Nat):partOf Xs cs o=if o+3<=cs.length then zs (.agg ((cs.drop o).take 3))else zn:=U6 rfl cs o
theorem ont63{f:TI->OpS}:X8 A0 63 f=f BZ:=rfl
theorem ty63_z:BZ.size=1:=rfl
theorem pt63(cs:List AV)(o:Nat):partOf BZ cs o=cs[o]?:=I3 rfl cs o
theorem ont66{f:TI->OpS}:X8 A0 66 f=f xB:=rfl
theorem ty66_z:xB.size=1:=rfl
theorem ty66_0:xB.zero=.nilptr:=rfl
theorem pt66(cs:List AV)(o:Nat):partOf xB cs o=cs[o]?:=I3 rfl cs o
theorem ont67{f:TI->OpS}:X8 A0 67 f=f sW:=rfl
theorem ty67_z:sW.size=1:=rfl
theorem ty67_d:sW.desc=.slice 26:=rfl
theorem pt67(cs:List AV)(o:Nat):partOf sW cs o=cs[o]?:=I3 rfl cs o
theorem el67:elemOfT A0 (.slice 26)=zs Hs:=rfl
theorem ap67(l:List TypeId)(s x:AV)(r:List AV)(K:PK):E0 A0 .append (67::67::l) (s::x::r) K=U5 Hs s x K:=rfl
theorem ix67(x:AV)(i:AV):Gd A0 sW x i=Pb Hs x i:=rfl
theorem ont69{f:TI->OpS}:X8 A0 69 f=f Qm:=rfl
theorem ty69_z:Qm.size=9:=rfl
theorem ty69_0:Qm.zero=.agg [.nilsl,.nilsl,.nilsl,(.int .i64 0),.nilsl,.nilsl,(.int .i64 0),(.int .i64 0),(.int .i64 0)]:=rfl
def CC(i:Nat):Option (Nat×Nat):=A6 (Qh [(25,0),(26,2),(3,3),(67,4),(48,5),(3,8)] i) fun f=>onTI A0 f.1 zn fun g=>zs (f.2,g.size)
theorem bd69(ps:List (Nat×AV)):R9 A0 Qm ps=HF (R2 CC ps Qm.zero.cells):=rfl
theorem pl69_0:CC 0=zs (0,2):=rfl
theorem fq69_0(x:AV):E6 A0 Qm 0 x=B0 x 0:=rfl
theorem pl69_1:CC 1=zs (2,1):=rfl
theorem fq69_1(x:AV):E6 A0 Qm 1 x=B0 x 2:=rfl
theorem pl69_2:CC 2=zs (3,1):=rfl
theorem fq69_2(x:AV):E6 A0 Qm 2 x=B0 x 3:=rfl
theorem fq69_3(x:AV):E6 A0 Qm 3 x=B0 x 4:=rfl
theorem fq69_4(x:AV):E6 A0 Qm 4 x=B0 x 5:=rfl
theorem fq69_5(x:AV):E6 A0 Qm 5 x=B0 x 8:=rfl
theorem ont71{f:TI->OpS}:X8 A0 71 f=f Ed:=rfl
theorem IE:A0.ti 71=zs Ed:=rfl
theorem ty71_z:Ed.size=4:=rfl
theorem ty71_b:Ed.bytes=40:=rfl
theorem ft71:flatT Ed=zt:=rfl
theorem ty71_0:Ed.zero=.agg [(.str []),(.int .i64 0),(.int .i64 0),(.int .i64 0)]:=rfl
theorem fq71_1(x:AV):E6 A0 Ed 1 x=B0 x 1:=rfl
theorem fq71_2(x:AV):E6 A0 Ed 2 x=B0 x 2:=rfl
theorem pt71(cs:List AV)(o:Nat):partOf Ed cs o=if o+4<=cs.length then zs (.agg ((cs.drop o).take 4))else zn:=U6 rfl cs o
theorem ont73{f:TI->OpS}:X8 A0 73 f=f gT:=rfl
theorem ty73_z:gT.size=2:=rfl
theorem ty73_0:gT.zero=.agg [(.int .i64 0),(.int .i64 0)]:=rfl
def IG(i:Nat):Option (Nat×Nat):=A6 (Qh [(3,0),(3,1)] i) fun f=>onTI A0 f.1 zn fun g=>zs (f.2,g.size)
theorem bd73(ps:List (Nat×AV)):R9 A0 gT ps=HF (R2 IG ps gT.zero.cells):=rfl
theorem pl73_0:IG 0=zs (0,1):=rfl
theorem fq73_0(x:AV):E6 A0 gT 0 x=B0 x 0:=rfl
theorem pl73_1:IG 1=zs (1,1):=rfl
theorem fq73_1(x:AV):E6 A0 gT 1 x=B0 x 1:=rfl
theorem ont78{f:TI->OpS}:X8 A0 78 f=f cR:=rfl
theorem ty78_z:cR.size=7:=rfl
theorem ty78_0:cR.zero=.agg [.nilsl,.nilsl,(.str []),(.int .i64 0),(.int .i64 0),.nilsl,.nilsl]:=rfl
def IH(i:Nat):Option (Nat×Nat):=A6 (Qh [(25,0),(34,2)] i) fun f=>onTI A0 f.1 zn fun g=>zs (f.2,g.size)
theorem bd78(ps:List (Nat×AV)):R9 A0 cR ps=HF (R2 IH ps cR.zero.cells):=rfl
theorem pl78_0:IH 0=zs (0,2):=rfl
theorem fq78_0(x:AV):E6 A0 cR 0 x=B0 x 0:=rfl
theorem pl78_1:IH 1=zs (2,5):=rfl
theorem fq78_1(x:AV):E6 A0 cR 1 x=B0 x 2:=rfl
theorem pt78(cs:List AV)(o:Nat):partOf cR cs o=if o+7<=cs.length then zs (.agg ((cs.drop o).take 7))else zn:=U6 rfl cs o
theorem ont110{f:TI->OpS}:X8 A0 110 f=f xC:=rfl
theorem ty110_d:xC.desc=.int .i8:=rfl
theorem ont125{f:TI->OpS}:X8 A0 125 f=f xD:=rfl
theorem ty125_d:xD.desc=.int .u64:=rfl
end
theorem z0z{a b:Prop}(x:a)(y:b):a/\b:=⟨x,y⟩
def XQ:=z0z @e_seq<|z0z @seqP_normal<|z0z @seqP_exit<|z0z @seqP_ret<|z0z @seqP_pan<|z0z @e_skip<|z0z @e_exit<|z0z @e_ret<|z0z @e_reg<|z0z @e_regD<|z0z @e_pre<|z0z @e_cond<|z0z @condP_true<|z0z @condP_false<|z0z @e_block<|z0z @blkP_normal<|z0z @blkP_exit<|z0z @blkP_ret<|z0z @blkP_pan<|z0z @e_post<|z0z @postP_normal<|z0z @postP_exit<|z0z @postP_ret<|z0z @postP_pan<|z0z @callK_val<|z0z @callK_pan<|z0z @doP_val<|z0z @doP_call<|z0z @doP_pan<|z0z @e_nil<|z0z @e_op<|z0z @e_opS<|z0z @e_opY<|z0z @callD_val<|z0z @callD_pan<|z0z @callQ_pan<|z0z @v_nil<|z0z @v_late<|z0z @v_op<|z0z @doV_val<|z0z @doD_val<|z0z @doD_call<|z0z @callQ_val<|z0z @doQ_val<|z0z @doQ_call<|z0z @doQ_sep<|z0z @callQ_sep<|z0z @doS_val<|z0z @s_nil<|z0z @s_op<|z0z @s_ld<|z0z @cvs_nil<|z0z @cvs_cons<|z0z @cv_ptr<|z0z @e_nilD<|z0z @d_op<|z0z @d_opQ<|z0z @d_opS<|z0z @d_opY<|z0z @d_opYQ<|z0z @bodyP_ret<|z0z @bodyP_norm<|z0z @bodyP_pan<|z0z @lk_hit<|z0z @lk_cons<|z0z @st_some<|z0z @st_none<|z0z @ov_tmp<|z0z @ov_int<|z0z @ov_bool<|z0z @ov_str<|z0z @ov_nsl<|z0z @ov_npt<|z0z @ov_func<|z0z @ol_nil<|z0z @ol_cons<|z0z @oq_nil<|z0z @oq_cons<|z0z @oo_none<|z0z @oo_some<|z0z @en_nil<|z0z @en_cons<|z0z @one_1<|z0z @one_2<|z0z @one_0<|z0z @ofV_some<|z0z @ofO_some<|z0z @pr_move<|z0z @pr_assign<|z0z @pr_pick<|z0z @pick_true<|z0z @pick_false<|z0z @pr_alloc<|z0z @pr_box<|z0z @pr_build<|z0z @pr_buildSl<|z0z @pr_load<|z0z @pr_store<|z0z @pr_nil<|z0z @pr_bin<|z0z @pr_un<|z0z @pr_conv<|z0z @pr_fn<|z0z @pr_slice<|z0z @pr_fa<|z0z @pr_ia<|z0z @pr_ex<|z0z @pr_bui<|z0z @pr_call<|z0z @pr_callv<|z0z @callP_fn<|z0z @bp_add<|z0z @bp_sub<|z0z @bp_mul<|z0z @bp_eql<|z0z @bp_neq<|z0z @bp_lss<|z0z @bp_leq<|z0z @bp_gtr<|z0z @bp_geq<|z0z @bp_eqlS<|z0z @bp_neqS<|z0z @wt_true<|z0z @wt_false<|z0z @wt_skip<|z0z @as_nat<|z0z @ln_fsl<|z0z @ln_msl<|z0z @ix_fsl<|z0z @ix_msl<|z0z @exP_tup<|z0z @ld_f<|z0z @ld_p<|z0z @ldR_some<|z0z @ldE_some<|z0z @tb_nil<|z0z @tb_eq<|z0z @tbE_row<|z0z @te_eq<|z0z @teE_flat<|z0z @teE_row<|z0z @te_fsl<|z0z @ap_eq<|z0z @ap1_some<|z0z @ap2_some<|z0z @cl_int<|z0z @cl_bool<|z0z @cl_str<|z0z @cl_own<|z0z @cl_msl<|z0z @ag_int<|z0z @ag_agg<|z0z @cl_nsl<|z0z @ce_int<|z0z @ce_bool<|z0z @ce_str<|z0z @ce_agg<|z0z @ce_fsl<|z0z @ce_nsl<|z0z @ce_msl<|z0z @ce_own<|z0z @fl_nil<|z0z @fl_cons<|z0z @ro6<|z0z @rwE_row<|z0z @rwE_sub<|z0z @rwS_some<|z0z @rwC_some<|z0z @rwD_some<|z0z @ow_own<|z0z @rt_eq<|z0z @rtE_row<|z0z @rtE_sub<|z0z @ch_eq<|z0z @chE_row<|z0z @chE_sub<|z0z @kp_eq<|z0z @kg_nil<|z0z @kg_row<|z0z @kg_dead<|z0z @kg_sub<|z0z @mf_nil<|z0z @mf_cons<|z0z @mo_nil<|z0z @mo_cons<|z0z @mp_1<|z0z @mp_2<|z0z @mk1_eq<|z0z @mk2_eq<|z0z @sm_eq<|z0z @smE_row<|z0z @smE_row1<|z0z @smE_sub<|z0z @smE_dead<|z0z @mi_eq<|z0z @rs_nil<|z0z @rs_cons<|z0z @rg_0<|z0z @rg_1<|z0z @rg_2<|z0z @rg_3<|z0z @rg_4<|z0z @rp_nil<|z0z @rp_cons<|z0z @po_cons<|z0z @rv_int<|z0z @rv_bool<|z0z @rv_str<|z0z @rv_agg<|z0z @rv_fsl<|z0z @rv_msl<|z0z @rv_ptr<|z0z @rv_nsl<|z0z @rv_fn<|z0z @rl_nil<|z0z @rl_cons<|z0z @rnM_some<|z0z @rnP_some<|z0z @et_eq<|z0z @enE_some<|z0z @rp_row<|z0z @rp_row1<|z0z @rp_dead<|z0z @rp_sub<|z0z @rnS_some<|z0z @rf_int<|z0z @rf_bool<|z0z @rf_str<|z0z @rf_agg<|z0z @rf_fsl<|z0z @rf_msl<|z0z @rf_ptr<|z0z @rf_nsl<|z0z @rf_fn<|z0z @rfl_nil<|z0z @rfl_cons<|z0z @bk_nil<|z0z @bk_cons<|z0z @bv_eq<|z0z @bs_nil<|z0z @bs_cons<|z0z @bc_msl<|z0z @bc_int<|z0z @bc_str<|z0z @lv_agg<|z0z @lv_msl<|z0z @lv_int<|z0z @lv_bool<|z0z @lv_str<|z0z @lv_fsl<|z0z @lv_own<|z0z @lv_nsl<|z0z @hd_cons<|z0z @os_nil<|z0z @os_cons<|z0z @ot_nil<|z0z @ot_own<|z0z @ot_int<|z0z @ot_bool<|z0z @ot_str<|z0z @va_nil<|z0z @va_cons<|z0z @co_some<|z0z @vv_int<|z0z @vv_bool<|z0z @vv_str<|z0z @wv_int<|z0z @wv_str<|z0z @agO_some<|z0z @vv_agg<|z0z @vl_nil<|z0z @vl_cons<|z0z @fsO_some<|z0z @vv_msl<|z0z @wv_msl<|z0z @vmE_some<|z0z @fz_nil<|z0z @fz_cons<|z0z @fz_int<|z0z @fz_str<|z0z @fz_agg<|z0z @fz_own<|z0z @nf_int<|z0z @nf_bool<|z0z @nf_str<|z0z @nf_agg<|z0z @nf_own<|z0z @nfl_nil<|z0z @nfl_cons<|z0z @or_nil<|z0z @or_cons<|z0z @on_int<|z0z @on_bool<|z0z @on_str<|z0z @ok_int<|z0z @ok_bool<|z0z @ok_str<|z0z @ok_msl<|z0z @ok_ptr<|z0z @ok_nsl<|z0z @ok_fn<|z0z @nr_eq<|z0z @bx_eq<|z0z @wc_agg<|z0z @wc_int<|z0z @wc_bool<|z0z @wc_nsl<|z0z @wc_msl<|z0z @ra_eq<|z0z @raE_0<|z0z @raE_1<|z0z @raE_sub<|z0z @sr_eq<|z0z @srE_row<|z0z @srE_sub<|z0z @srS_some<|z0z @srC_some<|z0z @srD_some<|z0z @pc_agg<|z0z @spR_some<|z0z @spE_some<|z0z @spB_true<|z0z @spB_false<|z0z @spC_true<|z0z @spC_false<|z0z @spO_some<|z0z @spQ_some<|z0z @spS_some<|z0z @rl_1<|z0z @sc_nil<|z0z @sc_clo<|z0z @sc_msl<|z0z @scM_row<|z0z @scK_some<|z0z @rsT_some<|z0z @rsC_val<|z0z @rsO_some<|z0z @rs_0<|z0z @rs_tmp<|z0z @rs_cell<|z0z @ok_fslN<|z0z @ce_fslN<|z0z @rf_fslN<|z0z @rv_fslN<|z0z @fz_fslN<|z0z @vv_fslN<|z0z @wv_fslN<|z0z @ln_fslN<|z0z @ix_fslN<|z0z @lv_fslN<|z0z @te_fslN<|z0z @pf_f<|z0z @pf_p<|z0z @ldW_eq<|z0z @oc_nil<|z0z @oc_own<|z0z @oc_int<|z0z @oc_bool<|z0z @oc_str<|z0z @oc_fsl<|z0z @oc_fslN<|z0z @oc_msl<|z0z @oc_ptr<|z0z @oc_nsl<|z0z @oc_fn<|z0z @lv_ptr<|z0z @ce_ptr<|z0z @lv_fn<|z0z @ce_fn<|z0z @bs_eq<|z0z @bsE_some<|z0z @pl_nil<|z0z @pl_cons<|z0z @plE_some<|z0z @rl_0<|z0z @rl_2<|z0z @rl_5<|z0z @rl_7<|z0z @rl_8<|z0z @tk_all<|z0z @fp_ok<|z0z @fbK_some<|z0z @fb_nil<|z0z @fbP_some<|z0z @fb_cons<|z0z @agM_some<|z0z @inpK_val<|z0z @wp_eq<|z0z @wpE_some<|z0z @ap2_nil<|z0z @teE_sub<|z0z @tsR_some<|z0z @tsP_some<|z0z @tsV_some<|z0z @tsS_some<|z0z @ro5<|z0z @ro4<|z0z @pr_pan<|z0z @panP_i<|z0z @nc_ptr<|z0z @inpK_pan<|z0z @fl_none<|z0z @rtQ_eq<|z0z @rtQ_row<|z0z @Option.map_some.{0,0}<|z0z @List.take_succ_cons.{0}<|z0z @List.take_zero.{0}<|z0z @List.drop_succ_cons.{0}<|z0z @List.drop_zero.{0}<|z0z @Option.map_none.{0,0}<|z0z @List.all_cons.{0}<|z0z @List.all_nil.{0}<|z0z @List.isEmpty_cons.{0}<|z0z @List.isEmpty_nil.{0}<|z0z @List.mem_cons.{0}<|z0z @List.not_mem_nil.{0}<|z0z @or_false<|z0z @false_or<|z0z @or_true<|z0z @true_or<|z0z @not_false_eq_true<|z0z @not_true_eq_false<|z0z @and_true<|z0z @true_and<|z0z @and_self<|z0z @Bool.and_self<|z0z @Bool.and_true<|z0z @Bool.true_and<|z0z @List.set_cons_zero.{0}<|z0z @List.set_cons_succ.{0}<|z0z @List.flatMap_cons.{0,0}<|z0z @List.flatMap_nil.{0,0}<|z0z @List.filter_cons.{0}<|z0z @List.filter_nil.{0}<|z0z @eq_self.{1}<|z0z @List.nodup_cons.{0}<|z0z @List.nodup_nil.{0}<|z0z @Option.isSome_some.{0}<|z0z @Option.isSome_none.{0}<|z0z @Bool.or_true<|z0z @Bool.or_false<|z0z @Bool.true_or<|z0z @Bool.false_or<|z0z @Nat.le_refl<|z0z @Nat.lt_irrefl<|z0z @Nat.not_lt_zero<|z0z @Nat.zero_le<|z0z @decide_eq_true_eq<|z0z @ne_eq.{1}<|z0z @List.cons_append.{0}<|z0z @List.nil_append.{0}<|z0z @List.append_nil.{0}<|z0z @List.length_cons.{0}<|z0z @List.length_nil.{0}<|z0z @List.getElem?_cons_zero.{0}<|z0z @List.getElem?_cons_succ.{0}<|z0z @List.getElem?_nil.{0}<|z0z @Nat.add_zero<|z0z @Bool.not_true<|z0z @Bool.not_false<|z0z @decide_true<|z0z @decide_false<|z0z @Option.some.injEq.{0}<|z0z @Bool.true_eq_false<|z0z @Bool.false_eq_true<|z0z @u_not<|z0z @Option.isNone_some.{0}<|z0z @Option.isNone_none.{0}<|z0z @Bool.and_false<|z0z @Bool.false_and<|z0z @cond_false.{1}<|z0z @cond_true.{1}<|z0z @ont2<|z0z @ont3<|z0z @ty3_z<|z0z @ty3_b<|z0z @ty3_d<|z0z @ft3<|z0z @ty3_0<|z0z @pt3<|z0z @ont4<|z0z @ty4_z<|z0z @ty4_b<|z0z @ty4_0<|z0z @pt4<|z0z @ont9<|z0z @pt9<|z0z @ont21<|z0z @ty21_d<|z0z @ont22<|z0z @ty22_d<|z0z @pt22<|z0z @el22<|z0z @ln22<|z0z @ap22<|z0z @ix22<|z0z @ont23<|z0z @ty23_d<|z0z @pt23<|z0z @el23<|z0z @ln23<|z0z @ap23<|z0z @ix23<|z0z @ont25<|z0z @ty25_z<|z0z @ty25_0<|z0z @bd25<|z0z @pl25_0<|z0z @fq25_0<|z0z @pl25_1<|z0z @fq25_1<|z0z @pt25<|z0z @ont26<|z0z @ty26_z<|z0z @ty26_b<|z0z @ty26_d<|z0z @ft26<|z0z @ty26_0<|z0z @pt26<|z0z @el26<|z0z @ln26<|z0z @ap26<|z0z @ix26<|z0z @ont28<|z0z @ty28_z<|z0z @fq28_0<|z0z @fq28_1<|z0z @fq28_2<|z0z @fq28_3<|z0z @fq28_4<|z0z @fq28_5<|z0z @ont32<|z0z @ty32_z<|z0z @ty32_d<|z0z @pt32<|z0z @el32<|z0z @ln32<|z0z @ap32<|z0z @ix32<|z0z @ont34<|z0z @ty34_z<|z0z @ty34_b<|z0z @ft34<|z0z @ty34_0<|z0z @fq34_0<|z0z @fq34_1<|z0z @fq34_2<|z0z @fq34_3<|z0z @fq34_4<|z0z @pt34<|z0z @ont35<|z0z @ty35_z<|z0z @ty35_d<|z0z @ty35_0<|z0z @pt35<|z0z @el35<|z0z @ln35<|z0z @ap35<|z0z @ix35<|z0z @ont38<|z0z @ty38_z<|z0z @ty38_b<|z0z @ty38_d<|z0z @ft38<|z0z @ty38_0<|z0z @pt38<|z0z @el38<|z0z @ln38<|z0z @ap38<|z0z @ix38<|z0z @ont41<|z0z @ty41_z<|z0z @ty41_b<|z0z @ft41<|z0z @ty41_0<|z0z @bd41<|z0z @pl41_0<|z0z @fq41_0<|z0z @fq41_1<|z0z @pl41_2<|z0z @fq41_2<|z0z @fq41_3<|z0z @fq41_4<|z0z @pl41_5<|z0z @fq41_5<|z0z @fq41_6<|z0z @fq41_7<|z0z @pt41<|z0z @ont42<|z0z @ty42_z<|z0z @ty42_d<|z0z @pt42<|z0z @el42<|z0z @ln42<|z0z @ap42<|z0z @ix42<|z0z @ont44<|z0z @ty44_z<|z0z @ty44_0<|z0z @fq44_0<|z0z @fq44_1<|z0z @fq44_2<|z0z @fq44_3<|z0z @pt44<|z0z @ont46<|z0z @ty46_z<|z0z @ty46_b<|z0z @ft46<|z0z @ty46_0<|z0z @bd46<|z0z @pl46_0<|z0z @fq46_0<|z0z @pl46_1<|z0z @fq46_1<|z0z @pt46<|z0z @ont48<|z0z @ty48_z<|z0z @ty48_0<|z0z @bd48<|z0z @pl48_0<|z0z @fq48_0<|z0z @pl48_1<|z0z @fq48_1<|z0z @pl48_2<|z0z @fq48_2<|z0z @pt48<|z0z @ont63<|z0z @ty63_z<|z0z @pt63<|z0z @ont66<|z0z @ty66_z<|z0z @ty66_0<|z0z @pt66<|z0z @ont67<|z0z @ty67_z<|z0z @ty67_d<|z0z @pt67<|z0z @el67<|z0z @ap67<|z0z @ix67<|z0z @ont69<|z0z @ty69_z<|z0z @ty69_0<|z0z @bd69<|z0z @pl69_0<|z0z @fq69_0<|z0z @pl69_1<|z0z @fq69_1<|z0z @pl69_2<|z0z @fq69_2<|z0z @fq69_3<|z0z @fq69_4<|z0z @fq69_5<|z0z @ont71<|z0z @ty71_z<|z0z @ty71_b<|z0z @ft71<|z0z @ty71_0<|z0z @fq71_1<|z0z @fq71_2<|z0z @pt71<|z0z @ont73<|z0z @ty73_z<|z0z @ty73_0<|z0z @bd73<|z0z @pl73_0<|z0z @fq73_0<|z0z @pl73_1<|z0z @fq73_1<|z0z @ont78<|z0z @ty78_z<|z0z @ty78_0<|z0z @bd78<|z0z @pl78_0<|z0z @fq78_0<|z0z @pl78_1<|z0z @fq78_1<|z0z @pt78<|z0z @ont110<|z0z @ty110_d<|z0z @ont125<|z0z @ty125_d<|z0z @xo_eq<|z0z @xm_eq<|z0z @xg_eq<|z0z @tm_eq<|z0z @ki_eq<|z0z @cl_eq<|z0z @xa_eq<|z0z @xl_eq<|z0z @xf_eq<|z0z @xi_eq<|z0z @xn_eq<|z0z @xs_eq<|z0z @xb_eq<|z0z @gl_eq<|z0z @gf_eq<|z0z @R_eq<|z0z @qs_eq<|z0z @kf_eq<|@kt_eq
def XP:=And.intro XQ (And.intro @sp_eq Nat.zero_add)
end Go.Proofs.AmEnv
