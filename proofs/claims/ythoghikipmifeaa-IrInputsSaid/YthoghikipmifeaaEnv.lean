/- The tables of this program's types and functions, facts on them, and the rules. Conditions: none. -/
import Derived.Test.YthoghikipmifeaaCode
set_option linter.unusedVariables false
set_option linter.unusedSimpArgs false
set_option linter.unusedSectionVars false
set_option linter.defProp false
set_option maxRecDepth 100000
namespace Go.Proofs.AmEnv
open Go.AM
noncomputable def QW:TI:=⟨.int .i64,1,8,.int .i64 0⟩
noncomputable def ty3:TI:=⟨.int .i64,1,8,.int .i64 0⟩
noncomputable def UK:TI:=⟨.bool,1,1,.bool false⟩
noncomputable def BV:TI:=⟨.string,1,16,.str []⟩
noncomputable def LS:TI:=⟨.iface,1,16,.niliface⟩
noncomputable def wF:TI:=⟨.int .i32,1,4,.int .i32 0⟩
noncomputable def jP:TI:=⟨.slice 46,1,24,.nilsl⟩
noncomputable def cZ:TI:=⟨.slice 49,1,24,.nilsl⟩
noncomputable def Pa:TI:=⟨.struct [(22,0),(23,1)] false,2,48,.agg [.nilsl,.nilsl]⟩
noncomputable def Ea:TI:=⟨.slice 3,1,24,.nilsl⟩
noncomputable def Wf:TI:=⟨.struct [(25,0),(26,2),(26,3),(3,4),(3,5)] false,6,112,.agg [.nilsl,.nilsl,.nilsl,.nilsl,(.int .i64 0),(.int .i64 0)]⟩
noncomputable def LU:TI:=⟨.int .i64,1,8,.int .i64 0⟩
noncomputable def LV:TI:=⟨.func,1,8,.nilfn⟩
noncomputable def LW:TI:=⟨.func,1,8,.nilfn⟩
noncomputable def Rw:TI:=⟨.struct [(26,0),(3,1),(3,2)] false,3,40,.agg [.nilsl,(.int .i64 0),(.int .i64 0)]⟩
noncomputable def LX:TI:=⟨.func,1,8,.nilfn⟩
noncomputable def LY:TI:=⟨.func,1,8,.nilfn⟩
noncomputable def LZ:TI:=⟨.func,1,8,.nilfn⟩
noncomputable def MA:TI:=⟨.func,1,8,.nilfn⟩
noncomputable def MB:TI:=⟨.struct [(9,0),(3,1),(3,2),(3,3)] true,4,40,.agg [(.str []),(.int .i64 0),(.int .i64 0),(.int .i64 0)]⟩
noncomputable def Ls:TI:=⟨.struct [(9,0),(3,1),(3,2),(3,3)] true,4,40,.agg [(.str []),(.int .i64 0),(.int .i64 0),(.int .i64 0)]⟩
noncomputable def dB:TI:=⟨.slice 54,1,24,.nilsl⟩
noncomputable def Bd:TI:=⟨.struct [(9,0),(3,1),(3,2),(26,3),(47,4)] false,5,80,.agg [(.str []),(.int .i64 0),(.int .i64 0),.nilsl,.nilsl]⟩
noncomputable def dC:TI:=⟨.slice 56,1,24,.nilsl⟩
noncomputable def Jp:TI:=⟨.struct [(3,0),(3,1),(3,2),(3,3)] true,4,32,.agg [(.int .i64 0),(.int .i64 0),(.int .i64 0),(.int .i64 0)]⟩
noncomputable def Jq:TI:=⟨.struct [(50,0),(52,1)] false,5,56,.agg [.nilsl,(.int .i64 0),(.int .i64 0),(.int .i64 0),(.int .i64 0)]⟩
noncomputable def Al:TI:=⟨.struct [(3,0),(3,1),(3,2),(3,3),(3,4),(3,5),(9,6),(26,7)] false,8,88,.agg [(.int .i64 0),(.int .i64 0),(.int .i64 0),(.int .i64 0),(.int .i64 0),(.int .i64 0),(.str []),.nilsl]⟩
noncomputable def MC:TI:=⟨.func,1,8,.nilfn⟩
noncomputable def Wg:TI:=⟨.struct [(25,0),(49,2)] false,7,128,.agg [.nilsl,.nilsl,(.str []),(.int .i64 0),(.int .i64 0),.nilsl,.nilsl]⟩
noncomputable def MD:TI:=⟨.func,1,8,.nilfn⟩
noncomputable def ME:TI:=⟨.func,1,8,.nilfn⟩
noncomputable def MF:TI:=⟨.func,1,8,.nilfn⟩
noncomputable def nG:TI:=⟨.ptr 66,1,8,.nilptr⟩
noncomputable def jQ:TI:=⟨.slice 26,1,24,.nilsl⟩
noncomputable def Lt:TI:=⟨.struct [(25,0),(26,2),(3,3),(64,4),(35,5),(3,8)] false,9,152,.agg [.nilsl,.nilsl,.nilsl,(.int .i64 0),.nilsl,.nilsl,(.int .i64 0),(.int .i64 0),(.int .i64 0)]⟩
noncomputable def Zr:TI:=⟨.struct [(3,0),(3,1)] true,2,16,.agg [(.int .i64 0),(.int .i64 0)]⟩
noncomputable def MG:TI:=⟨.func,1,8,.nilfn⟩
noncomputable def MH:TI:=⟨.func,1,8,.nilfn⟩
noncomputable def MI:TI:=⟨.ptr 3,1,8,.nilptr⟩
noncomputable def BW:TI:=⟨.func,1,8,.nilfn⟩
noncomputable def BX:TI:=⟨.func,1,8,.nilfn⟩
noncomputable def BY:TI:=⟨.func,1,8,.nilfn⟩
noncomputable def nH:TI:=⟨.int .i8,1,1,.int .i8 0⟩
noncomputable def BZ:TI:=⟨.func,1,8,.nilfn⟩
noncomputable def nI:TI:=⟨.int .u64,1,8,.int .u64 0⟩
noncomputable def ti (t:Nat):Option TI :=
 bif Nat.blt t 49 then (bif Nat.blt t 30 then (bif Nat.blt t 21 then (bif Nat.blt t 4 then (bif Nat.blt t 3 then (bif Nat.beq t 2 then some QW else none) else (bif Nat.beq t 3 then some ty3 else none)) else (bif Nat.blt t 9 then (bif Nat.beq t 4 then some UK else none) else (bif Nat.blt t 20 then (bif Nat.beq t 9 then some BV else none) else (bif Nat.beq t 20 then some LS else none)))) else (bif Nat.blt t 25 then (bif Nat.blt t 22 then (bif Nat.beq t 21 then some wF else none) else (bif Nat.blt t 23 then (bif Nat.beq t 22 then some jP else none) else (bif Nat.beq t 23 then some cZ else none))) else (bif Nat.blt t 26 then (bif Nat.beq t 25 then some Pa else none) else (bif Nat.blt t 28 then (bif Nat.beq t 26 then some Ea else none) else (bif Nat.beq t 28 then some Wf else none))))) else (bif Nat.blt t 38 then (bif Nat.blt t 33 then (bif Nat.blt t 32 then (bif Nat.beq t 30 then some LU else none) else (bif Nat.beq t 32 then some LV else none)) else (bif Nat.blt t 35 then (bif Nat.beq t 33 then some LW else none) else (bif Nat.blt t 37 then (bif Nat.beq t 35 then some Rw else none) else (bif Nat.beq t 37 then some LX else none)))) else (bif Nat.blt t 45 then (bif Nat.blt t 42 then (bif Nat.beq t 38 then some LY else none) else (bif Nat.blt t 43 then (bif Nat.beq t 42 then some LZ else none) else (bif Nat.beq t 43 then some MA else none))) else (bif Nat.blt t 46 then (bif Nat.beq t 45 then some MB else none) else (bif Nat.blt t 47 then (bif Nat.beq t 46 then some Ls else none) else (bif Nat.beq t 47 then some dB else none)))))) else (bif Nat.blt t 64 then (bif Nat.blt t 57 then (bif Nat.blt t 52 then (bif Nat.blt t 50 then (bif Nat.beq t 49 then some Bd else none) else (bif Nat.beq t 50 then some dC else none)) else (bif Nat.blt t 54 then (bif Nat.beq t 52 then some Jp else none) else (bif Nat.blt t 56 then (bif Nat.beq t 54 then some Jq else none) else (bif Nat.beq t 56 then some Al else none)))) else (bif Nat.blt t 61 then (bif Nat.blt t 59 then (bif Nat.beq t 57 then some MC else none) else (bif Nat.blt t 60 then (bif Nat.beq t 59 then some Wg else none) else (bif Nat.beq t 60 then some MD else none))) else (bif Nat.blt t 62 then (bif Nat.beq t 61 then some ME else none) else (bif Nat.blt t 63 then (bif Nat.beq t 62 then some MF else none) else (bif Nat.beq t 63 then some nG else none))))) else (bif Nat.blt t 105 then (bif Nat.blt t 80 then (bif Nat.blt t 66 then (bif Nat.beq t 64 then some jQ else none) else (bif Nat.blt t 68 then (bif Nat.beq t 66 then some Lt else none) else (bif Nat.beq t 68 then some Zr else none))) else (bif Nat.blt t 94 then (bif Nat.beq t 80 then some MG else none) else (bif Nat.blt t 97 then (bif Nat.beq t 94 then some MH else none) else (bif Nat.beq t 97 then some MI else none)))) else (bif Nat.blt t 113 then (bif Nat.blt t 109 then (bif Nat.beq t 105 then some BW else none) else (bif Nat.blt t 110 then (bif Nat.beq t 109 then some BX else none) else (bif Nat.beq t 110 then some BY else none))) else (bif Nat.blt t 124 then (bif Nat.beq t 113 then some nH else none) else (bif Nat.blt t 126 then (bif Nat.beq t 124 then some BZ else none) else (bif Nat.beq t 126 then some nI else none))))))
noncomputable def fn (f:Nat):Option FI :=
 bif Nat.blt f 42 then (bif Nat.blt f 22 then (bif Nat.blt f 11 then (bif Nat.blt f 8 then (bif Nat.blt f 6 then (bif Nat.beq f 4 then some UD else none) else (bif Nat.blt f 7 then (bif Nat.beq f 6 then some UE else none) else (bif Nat.beq f 7 then some UF else none))) else (bif Nat.blt f 9 then (bif Nat.beq f 8 then some UG else none) else (bif Nat.blt f 10 then (bif Nat.beq f 9 then some UH else none) else (bif Nat.beq f 10 then some JT else none)))) else (bif Nat.blt f 14 then (bif Nat.blt f 12 then (bif Nat.beq f 11 then some JU else none) else (bif Nat.blt f 13 then (bif Nat.beq f 12 then some JV else none) else (bif Nat.beq f 13 then some JW else none))) else (bif Nat.blt f 20 then (bif Nat.blt f 19 then (bif Nat.beq f 14 then some JX else none) else (bif Nat.beq f 19 then some JY else none)) else (bif Nat.blt f 21 then (bif Nat.beq f 20 then some JZ else none) else (bif Nat.beq f 21 then some KA else none))))) else (bif Nat.blt f 35 then (bif Nat.blt f 32 then (bif Nat.blt f 23 then (bif Nat.beq f 22 then some KB else none) else (bif Nat.blt f 24 then (bif Nat.beq f 23 then some KD else none) else (bif Nat.beq f 24 then some KE else none))) else (bif Nat.blt f 33 then (bif Nat.beq f 32 then some KF else none) else (bif Nat.blt f 34 then (bif Nat.beq f 33 then some KG else none) else (bif Nat.beq f 34 then some KH else none)))) else (bif Nat.blt f 38 then (bif Nat.blt f 36 then (bif Nat.beq f 35 then some KI else none) else (bif Nat.blt f 37 then (bif Nat.beq f 36 then some KJ else none) else (bif Nat.beq f 37 then some KK else none))) else (bif Nat.blt f 40 then (bif Nat.blt f 39 then (bif Nat.beq f 38 then some KL else none) else (bif Nat.beq f 39 then some KM else none)) else (bif Nat.blt f 41 then (bif Nat.beq f 40 then some KN else none) else (bif Nat.beq f 41 then some KO else none)))))) else (bif Nat.blt f 66 then (bif Nat.blt f 54 then (bif Nat.blt f 51 then (bif Nat.blt f 43 then (bif Nat.beq f 42 then some KP else none) else (bif Nat.blt f 50 then (bif Nat.beq f 43 then some KQ else none) else (bif Nat.beq f 50 then some KR else none))) else (bif Nat.blt f 52 then (bif Nat.beq f 51 then some KS else none) else (bif Nat.blt f 53 then (bif Nat.beq f 52 then some KT else none) else (bif Nat.beq f 53 then some KU else none)))) else (bif Nat.blt f 57 then (bif Nat.blt f 55 then (bif Nat.beq f 54 then some KV else none) else (bif Nat.blt f 56 then (bif Nat.beq f 55 then some KW else none) else (bif Nat.beq f 56 then some KX else none))) else (bif Nat.blt f 64 then (bif Nat.blt f 58 then (bif Nat.beq f 57 then some KY else none) else (bif Nat.beq f 58 then some KZ else none)) else (bif Nat.blt f 65 then (bif Nat.beq f 64 then some LB else none) else (bif Nat.beq f 65 then some LC else none))))) else (bif Nat.blt f 79 then (bif Nat.blt f 69 then (bif Nat.blt f 67 then (bif Nat.beq f 66 then some LD else none) else (bif Nat.blt f 68 then (bif Nat.beq f 67 then some LF else none) else (bif Nat.beq f 68 then some LG else none))) else (bif Nat.blt f 71 then (bif Nat.blt f 70 then (bif Nat.beq f 69 then some LH else none) else (bif Nat.beq f 70 then some LI else none)) else (bif Nat.blt f 72 then (bif Nat.beq f 71 then some LJ else none) else (bif Nat.beq f 72 then some LK else none)))) else (bif Nat.blt f 82 then (bif Nat.blt f 80 then (bif Nat.beq f 79 then some LL else none) else (bif Nat.blt f 81 then (bif Nat.beq f 80 then some LM else none) else (bif Nat.beq f 81 then some LN else none))) else (bif Nat.blt f 88 then (bif Nat.blt f 83 then (bif Nat.beq f 82 then some LO else none) else (bif Nat.beq f 83 then some LP else none)) else (bif Nat.blt f 89 then (bif Nat.beq f 88 then some LQ else none) else (bif Nat.beq f 89 then some LR else none))))))
noncomputable def A0:Env:=⟨ti,fn,fun _=>none,fun f=>Nat.beq f 63,some 0,fun _=>false,fun _=>none,fun _ _=>false⟩
noncomputable section
def A4 (f:Nat):Option PFn:=bif Nat.blt f 42 then (bif Nat.blt f 22 then (bif Nat.blt f 11 then (bif Nat.blt f 8 then (bif Nat.blt f 6 then (bif Nat.beq f 4 then some QR else none) else (bif Nat.blt f 7 then (bif Nat.beq f 6 then some QS else none) else (bif Nat.beq f 7 then some QT else none))) else (bif Nat.blt f 9 then (bif Nat.beq f 8 then some QU else none) else (bif Nat.blt f 10 then (bif Nat.beq f 9 then some QV else none) else (bif Nat.beq f 10 then some zV else none)))) else (bif Nat.blt f 14 then (bif Nat.blt f 12 then (bif Nat.beq f 11 then some zW else none) else (bif Nat.blt f 13 then (bif Nat.beq f 12 then some zX else none) else (bif Nat.beq f 13 then some zY else none))) else (bif Nat.blt f 20 then (bif Nat.blt f 19 then (bif Nat.beq f 14 then some zZ else none) else (bif Nat.beq f 19 then some AA else none)) else (bif Nat.blt f 21 then (bif Nat.beq f 20 then some AB else none) else (bif Nat.beq f 21 then some AC else none))))) else (bif Nat.blt f 35 then (bif Nat.blt f 32 then (bif Nat.blt f 23 then (bif Nat.beq f 22 then some AE else none) else (bif Nat.blt f 24 then (bif Nat.beq f 23 then some AF else none) else (bif Nat.beq f 24 then some AG else none))) else (bif Nat.blt f 33 then (bif Nat.beq f 32 then some AH else none) else (bif Nat.blt f 34 then (bif Nat.beq f 33 then some AI else none) else (bif Nat.beq f 34 then some AJ else none)))) else (bif Nat.blt f 38 then (bif Nat.blt f 36 then (bif Nat.beq f 35 then some AK else none) else (bif Nat.blt f 37 then (bif Nat.beq f 36 then some AL else none) else (bif Nat.beq f 37 then some AN else none))) else (bif Nat.blt f 40 then (bif Nat.blt f 39 then (bif Nat.beq f 38 then some AP else none) else (bif Nat.beq f 39 then some AQ else none)) else (bif Nat.blt f 41 then (bif Nat.beq f 40 then some AR else none) else (bif Nat.beq f 41 then some AS else none)))))) else (bif Nat.blt f 66 then (bif Nat.blt f 54 then (bif Nat.blt f 51 then (bif Nat.blt f 43 then (bif Nat.beq f 42 then some AT else none) else (bif Nat.blt f 50 then (bif Nat.beq f 43 then some AU else none) else (bif Nat.beq f 50 then some AW else none))) else (bif Nat.blt f 52 then (bif Nat.beq f 51 then some AX else none) else (bif Nat.blt f 53 then (bif Nat.beq f 52 then some AY else none) else (bif Nat.beq f 53 then some AZ else none)))) else (bif Nat.blt f 57 then (bif Nat.blt f 55 then (bif Nat.beq f 54 then some BA else none) else (bif Nat.blt f 56 then (bif Nat.beq f 55 then some BB else none) else (bif Nat.beq f 56 then some BC else none))) else (bif Nat.blt f 64 then (bif Nat.blt f 58 then (bif Nat.beq f 57 then some BD else none) else (bif Nat.beq f 58 then some BE else none)) else (bif Nat.blt f 65 then (bif Nat.beq f 64 then some BF else none) else (bif Nat.beq f 65 then some BG else none))))) else (bif Nat.blt f 79 then (bif Nat.blt f 69 then (bif Nat.blt f 67 then (bif Nat.beq f 66 then some BH else none) else (bif Nat.blt f 68 then (bif Nat.beq f 67 then some BI else none) else (bif Nat.beq f 68 then some BJ else none))) else (bif Nat.blt f 71 then (bif Nat.blt f 70 then (bif Nat.beq f 69 then some BK else none) else (bif Nat.beq f 70 then some BL else none)) else (bif Nat.blt f 72 then (bif Nat.beq f 71 then some BM else none) else (bif Nat.beq f 72 then some BN else none)))) else (bif Nat.blt f 82 then (bif Nat.blt f 80 then (bif Nat.beq f 79 then some BO else none) else (bif Nat.blt f 81 then (bif Nat.beq f 80 then some BP else none) else (bif Nat.beq f 81 then some BQ else none))) else (bif Nat.blt f 88 then (bif Nat.blt f 83 then (bif Nat.beq f 82 then some BR else none) else (bif Nat.beq f 83 then some BS else none)) else (bif Nat.blt f 89 then (bif Nat.beq f 88 then some BT else none) else (bif Nat.beq f 89 then some BU else none))))))
end
end Go.Proofs.AmEnv
set_option maxRecDepth 100000
set_option linter.unusedVariables false
namespace Go.Proofs.AmEnv
open Go Go.AM
noncomputable section
theorem ont2 {f:TI->OpS}:V1 A0 2 f=f QW:=rfl
theorem ont3 {f:TI->OpS}:V1 A0 3 f=f ty3:=rfl
theorem QX:A0.ti 3=some ty3:=rfl
theorem ty3_z:ty3.size=1:=rfl
theorem ty3_b:ty3.bytes=8:=rfl
theorem ty3_d:ty3.desc=.int .i64:=rfl
theorem ft3:flatT ty3=true:=rfl
theorem ty3_0:ty3.zero=.int .i64 0:=rfl
theorem pt3 (cs:List AV) (o:Nat):partOf ty3 cs o=cs[o]?:=N2 rfl cs o
theorem ont9 {f:TI->OpS}:V1 A0 9 f=f BV:=rfl
theorem UL:A0.ti 9=some BV:=rfl
theorem pt9 (cs:List AV) (o:Nat):partOf BV cs o=cs[o]?:=N2 rfl cs o
theorem ont21 {f:TI->OpS}:V1 A0 21 f=f wF:=rfl
theorem ty21_d:wF.desc=.int .i32:=rfl
theorem ont22 {f:TI->OpS}:V1 A0 22 f=f jP:=rfl
theorem MJ:A0.ti 22=some jP:=rfl
theorem pt22 (cs:List AV) (o:Nat):partOf jP cs o=cs[o]?:=N2 rfl cs o
theorem ln22 (l:List TypeId) (x:AV) (r:List AV) (K:PK):E0 A0 .len (22 :: l) (x :: r) K=vN x K:=rfl
theorem ix22 (x:AV) (i:AV):Ih A0 jP x i=Si Ls x i:=rfl
theorem ont23 {f:TI->OpS}:V1 A0 23 f=f cZ:=rfl
theorem MK:A0.ti 23=some cZ:=rfl
theorem ty23_d:cZ.desc=.slice 49:=rfl
theorem pt23 (cs:List AV) (o:Nat):partOf cZ cs o=cs[o]?:=N2 rfl cs o
theorem el23:elemOfT A0 (.slice 49)=some Bd:=rfl
theorem ln23 (l:List TypeId) (x:AV) (r:List AV) (K:PK):E0 A0 .len (23 :: l) (x :: r) K=vN x K:=rfl
theorem ix23 (x:AV) (i:AV):Ih A0 cZ x i=Si Bd x i:=rfl
theorem ont25 {f:TI->OpS}:V1 A0 25 f=f Pa:=rfl
theorem ML:A0.ti 25=some Pa:=rfl
theorem ty25_z:Pa.size=2:=rfl
theorem ty25_0:Pa.zero=.agg [.nilsl,.nilsl]:=rfl
def CA (i:Nat):Option (Nat × Nat):=A3 (Gm [(22,0),(23,1)] i) fun f=>onTI A0 f.1 none fun g=>some (f.2,g.size)
theorem bd25 (ps:List (Nat × AV)):M1 A0 Pa ps=qS (L6 CA ps Pa.zero.cells):=rfl
theorem fq25_0 (x:AV):E1 A0 Pa 0 x=A9 x 0:=rfl
theorem pl25_1:CA 1=some (1,1):=rfl
theorem fq25_1 (x:AV):E1 A0 Pa 1 x=A9 x 1:=rfl
theorem pt25 (cs:List AV) (o:Nat):partOf Pa cs o=if o + 2≤cs.length then some (.agg ((cs.drop o).take 2)) else none:=Q3 rfl cs o
theorem ont26 {f:TI->OpS}:V1 A0 26 f=f Ea:=rfl
theorem MM:A0.ti 26=some Ea:=rfl
theorem ty26_z:Ea.size=1:=rfl
theorem ty26_b:Ea.bytes=24:=rfl
theorem ty26_d:Ea.desc=.slice 3:=rfl
theorem ft26:flatT Ea=false:=rfl
theorem ty26_0:Ea.zero=.nilsl:=rfl
theorem pt26 (cs:List AV) (o:Nat):partOf Ea cs o=cs[o]?:=N2 rfl cs o
theorem el26:elemOfT A0 (.slice 3)=some ty3:=rfl
theorem ln26 (l:List TypeId) (x:AV) (r:List AV) (K:PK):E0 A0 .len (26 :: l) (x :: r) K=vN x K:=rfl
theorem ap26 (l:List TypeId) (s x:AV) (r:List AV) (K:PK):E0 A0 .append (26 :: 26 :: l) (s :: x :: r) K=At ty3 s x K:=rfl
theorem ix26 (x:AV) (i:AV):Ih A0 Ea x i=Si ty3 x i:=rfl
theorem ont28 {f:TI->OpS}:V1 A0 28 f=f Wf:=rfl
theorem MN:A0.ti 28=some Wf:=rfl
theorem ty28_z:Wf.size=6:=rfl
theorem fq28_0 (x:AV):E1 A0 Wf 0 x=A9 x 0:=rfl
theorem fq28_1 (x:AV):E1 A0 Wf 1 x=A9 x 2:=rfl
theorem fq28_2 (x:AV):E1 A0 Wf 2 x=A9 x 3:=rfl
theorem fq28_3 (x:AV):E1 A0 Wf 3 x=A9 x 4:=rfl
theorem ont35 {f:TI->OpS}:V1 A0 35 f=f Rw:=rfl
theorem ty35_z:Rw.size=3:=rfl
theorem ty35_0:Rw.zero=.agg [.nilsl,(.int .i64 0),(.int .i64 0)]:=rfl
def rI (i:Nat):Option (Nat × Nat):=A3 (Gm [(26,0),(3,1),(3,2)] i) fun f=>onTI A0 f.1 none fun g=>some (f.2,g.size)
theorem bd35 (ps:List (Nat × AV)):M1 A0 Rw ps=qS (L6 rI ps Rw.zero.cells):=rfl
theorem pl35_0:rI 0=some (0,1):=rfl
theorem fq35_0 (x:AV):E1 A0 Rw 0 x=A9 x 0:=rfl
theorem pl35_1:rI 1=some (1,1):=rfl
theorem fq35_1 (x:AV):E1 A0 Rw 1 x=A9 x 1:=rfl
theorem pl35_2:rI 2=some (2,1):=rfl
theorem fq35_2 (x:AV):E1 A0 Rw 2 x=A9 x 2:=rfl
theorem pt35 (cs:List AV) (o:Nat):partOf Rw cs o=if o + 3≤cs.length then some (.agg ((cs.drop o).take 3)) else none:=Q3 rfl cs o
theorem ont46 {f:TI->OpS}:V1 A0 46 f=f Ls:=rfl
theorem wG:A0.ti 46=some Ls:=rfl
theorem ty46_z:Ls.size=4:=rfl
theorem ty46_0:Ls.zero=.agg [(.str []),(.int .i64 0),(.int .i64 0),(.int .i64 0)]:=rfl
theorem fq46_1 (x:AV):E1 A0 Ls 1 x=A9 x 1:=rfl
theorem fq46_2 (x:AV):E1 A0 Ls 2 x=A9 x 2:=rfl
theorem pt46 (cs:List AV) (o:Nat):partOf Ls cs o=if o + 4≤cs.length then some (.agg ((cs.drop o).take 4)) else none:=Q3 rfl cs o
theorem ont47 {f:TI->OpS}:V1 A0 47 f=f dB:=rfl
theorem MO:A0.ti 47=some dB:=rfl
theorem ty47_d:dB.desc=.slice 54:=rfl
theorem pt47 (cs:List AV) (o:Nat):partOf dB cs o=cs[o]?:=N2 rfl cs o
theorem el47:elemOfT A0 (.slice 54)=some Jq:=rfl
theorem ln47 (l:List TypeId) (x:AV) (r:List AV) (K:PK):E0 A0 .len (47 :: l) (x :: r) K=vN x K:=rfl
theorem ix47 (x:AV) (i:AV):Ih A0 dB x i=Si Jq x i:=rfl
theorem ont49 {f:TI->OpS}:V1 A0 49 f=f Bd:=rfl
theorem wH:A0.ti 49=some Bd:=rfl
theorem ty49_z:Bd.size=5:=rfl
theorem ty49_0:Bd.zero=.agg [(.str []),(.int .i64 0),(.int .i64 0),.nilsl,.nilsl]:=rfl
def nJ (i:Nat):Option (Nat × Nat):=A3 (Gm [(9,0),(3,1),(3,2),(26,3),(47,4)] i) fun f=>onTI A0 f.1 none fun g=>some (f.2,g.size)
theorem bd49 (ps:List (Nat × AV)):M1 A0 Bd ps=qS (L6 nJ ps Bd.zero.cells):=rfl
theorem pl49_0:nJ 0=some (0,1):=rfl
theorem fq49_0 (x:AV):E1 A0 Bd 0 x=A9 x 0:=rfl
theorem pl49_1:nJ 1=some (1,1):=rfl
theorem fq49_1 (x:AV):E1 A0 Bd 1 x=A9 x 1:=rfl
theorem fq49_2 (x:AV):E1 A0 Bd 2 x=A9 x 2:=rfl
theorem pl49_3:nJ 3=some (3,1):=rfl
theorem fq49_3 (x:AV):E1 A0 Bd 3 x=A9 x 3:=rfl
theorem pl49_4:nJ 4=some (4,1):=rfl
theorem fq49_4 (x:AV):E1 A0 Bd 4 x=A9 x 4:=rfl
theorem pt49 (cs:List AV) (o:Nat):partOf Bd cs o=if o + 5≤cs.length then some (.agg ((cs.drop o).take 5)) else none:=Q3 rfl cs o
theorem ont50 {f:TI->OpS}:V1 A0 50 f=f dC:=rfl
theorem MP:A0.ti 50=some dC:=rfl
theorem ty50_d:dC.desc=.slice 56:=rfl
theorem pt50 (cs:List AV) (o:Nat):partOf dC cs o=cs[o]?:=N2 rfl cs o
theorem el50:elemOfT A0 (.slice 56)=some Al:=rfl
theorem ln50 (l:List TypeId) (x:AV) (r:List AV) (K:PK):E0 A0 .len (50 :: l) (x :: r) K=vN x K:=rfl
theorem ix50 (x:AV) (i:AV):Ih A0 dC x i=Si Al x i:=rfl
theorem ont52 {f:TI->OpS}:V1 A0 52 f=f Jp:=rfl
theorem MQ:A0.ti 52=some Jp:=rfl
theorem ty52_z:Jp.size=4:=rfl
theorem ty52_0:Jp.zero=.agg [(.int .i64 0),(.int .i64 0),(.int .i64 0),(.int .i64 0)]:=rfl
def CB (i:Nat):Option (Nat × Nat):=A3 (Gm [(3,0),(3,1),(3,2),(3,3)] i) fun f=>onTI A0 f.1 none fun g=>some (f.2,g.size)
theorem bd52 (ps:List (Nat × AV)):M1 A0 Jp ps=qS (L6 CB ps Jp.zero.cells):=rfl
theorem pl52_0:CB 0=some (0,1):=rfl
theorem fq52_0 (x:AV):E1 A0 Jp 0 x=A9 x 0:=rfl
theorem fq52_1 (x:AV):E1 A0 Jp 1 x=A9 x 1:=rfl
theorem fq52_2 (x:AV):E1 A0 Jp 2 x=A9 x 2:=rfl
theorem fq52_3 (x:AV):E1 A0 Jp 3 x=A9 x 3:=rfl
theorem pt52 (cs:List AV) (o:Nat):partOf Jp cs o=if o + 4≤cs.length then some (.agg ((cs.drop o).take 4)) else none:=Q3 rfl cs o
theorem ont54 {f:TI->OpS}:V1 A0 54 f=f Jq:=rfl
theorem wI:A0.ti 54=some Jq:=rfl
theorem ty54_z:Jq.size=5:=rfl
theorem ty54_0:Jq.zero=.agg [.nilsl,(.int .i64 0),(.int .i64 0),(.int .i64 0),(.int .i64 0)]:=rfl
def wJ (i:Nat):Option (Nat × Nat):=A3 (Gm [(50,0),(52,1)] i) fun f=>onTI A0 f.1 none fun g=>some (f.2,g.size)
theorem bd54 (ps:List (Nat × AV)):M1 A0 Jq ps=qS (L6 wJ ps Jq.zero.cells):=rfl
theorem pl54_0:wJ 0=some (0,1):=rfl
theorem fq54_0 (x:AV):E1 A0 Jq 0 x=A9 x 0:=rfl
theorem pl54_1:wJ 1=some (1,4):=rfl
theorem fq54_1 (x:AV):E1 A0 Jq 1 x=A9 x 1:=rfl
theorem pt54 (cs:List AV) (o:Nat):partOf Jq cs o=if o + 5≤cs.length then some (.agg ((cs.drop o).take 5)) else none:=Q3 rfl cs o
theorem ont56 {f:TI->OpS}:V1 A0 56 f=f Al:=rfl
theorem wK:A0.ti 56=some Al:=rfl
theorem ty56_z:Al.size=8:=rfl
theorem ty56_0:Al.zero=.agg [(.int .i64 0),(.int .i64 0),(.int .i64 0),(.int .i64 0),(.int .i64 0),(.int .i64 0),(.str []),.nilsl]:=rfl
def rJ (i:Nat):Option (Nat × Nat):=A3 (Gm [(3,0),(3,1),(3,2),(3,3),(3,4),(3,5),(9,6),(26,7)] i) fun f=>onTI A0 f.1 none fun g=>some (f.2,g.size)
theorem bd56 (ps:List (Nat × AV)):M1 A0 Al ps=qS (L6 rJ ps Al.zero.cells):=rfl
theorem pl56_0:rJ 0=some (0,1):=rfl
theorem fq56_0 (x:AV):E1 A0 Al 0 x=A9 x 0:=rfl
theorem fq56_1 (x:AV):E1 A0 Al 1 x=A9 x 1:=rfl
theorem pl56_2:rJ 2=some (2,1):=rfl
theorem fq56_2 (x:AV):E1 A0 Al 2 x=A9 x 2:=rfl
theorem fq56_3 (x:AV):E1 A0 Al 3 x=A9 x 3:=rfl
theorem fq56_4 (x:AV):E1 A0 Al 4 x=A9 x 4:=rfl
theorem pl56_5:rJ 5=some (5,1):=rfl
theorem fq56_5 (x:AV):E1 A0 Al 5 x=A9 x 5:=rfl
theorem fq56_6 (x:AV):E1 A0 Al 6 x=A9 x 6:=rfl
theorem fq56_7 (x:AV):E1 A0 Al 7 x=A9 x 7:=rfl
theorem pt56 (cs:List AV) (o:Nat):partOf Al cs o=if o + 8≤cs.length then some (.agg ((cs.drop o).take 8)) else none:=Q3 rfl cs o
theorem ont59 {f:TI->OpS}:V1 A0 59 f=f Wg:=rfl
theorem ty59_z:Wg.size=7:=rfl
theorem ty59_0:Wg.zero=.agg [.nilsl,.nilsl,(.str []),(.int .i64 0),(.int .i64 0),.nilsl,.nilsl]:=rfl
def wL (i:Nat):Option (Nat × Nat):=A3 (Gm [(25,0),(49,2)] i) fun f=>onTI A0 f.1 none fun g=>some (f.2,g.size)
theorem bd59 (ps:List (Nat × AV)):M1 A0 Wg ps=qS (L6 wL ps Wg.zero.cells):=rfl
theorem pl59_0:wL 0=some (0,2):=rfl
theorem fq59_0 (x:AV):E1 A0 Wg 0 x=A9 x 0:=rfl
theorem pl59_1:wL 1=some (2,5):=rfl
theorem fq59_1 (x:AV):E1 A0 Wg 1 x=A9 x 2:=rfl
theorem pt59 (cs:List AV) (o:Nat):partOf Wg cs o=if o + 7≤cs.length then some (.agg ((cs.drop o).take 7)) else none:=Q3 rfl cs o
theorem ont63 {f:TI->OpS}:V1 A0 63 f=f nG:=rfl
theorem ty63_z:nG.size=1:=rfl
theorem ty63_0:nG.zero=.nilptr:=rfl
theorem pt63 (cs:List AV) (o:Nat):partOf nG cs o=cs[o]?:=N2 rfl cs o
theorem ont64 {f:TI->OpS}:V1 A0 64 f=f jQ:=rfl
theorem ty64_z:jQ.size=1:=rfl
theorem ty64_d:jQ.desc=.slice 26:=rfl
theorem pt64 (cs:List AV) (o:Nat):partOf jQ cs o=cs[o]?:=N2 rfl cs o
theorem el64:elemOfT A0 (.slice 26)=some Ea:=rfl
theorem ap64 (l:List TypeId) (s x:AV) (r:List AV) (K:PK):E0 A0 .append (64 :: 64 :: l) (s :: x :: r) K=At Ea s x K:=rfl
theorem ix64 (x:AV) (i:AV):Ih A0 jQ x i=Si Ea x i:=rfl
theorem ont66 {f:TI->OpS}:V1 A0 66 f=f Lt:=rfl
theorem ty66_z:Lt.size=9:=rfl
theorem ty66_0:Lt.zero=.agg [.nilsl,.nilsl,.nilsl,(.int .i64 0),.nilsl,.nilsl,(.int .i64 0),(.int .i64 0),(.int .i64 0)]:=rfl
def rK (i:Nat):Option (Nat × Nat):=A3 (Gm [(25,0),(26,2),(3,3),(64,4),(35,5),(3,8)] i) fun f=>onTI A0 f.1 none fun g=>some (f.2,g.size)
theorem bd66 (ps:List (Nat × AV)):M1 A0 Lt ps=qS (L6 rK ps Lt.zero.cells):=rfl
theorem pl66_0:rK 0=some (0,2):=rfl
theorem fq66_0 (x:AV):E1 A0 Lt 0 x=A9 x 0:=rfl
theorem pl66_1:rK 1=some (2,1):=rfl
theorem fq66_1 (x:AV):E1 A0 Lt 1 x=A9 x 2:=rfl
theorem pl66_2:rK 2=some (3,1):=rfl
theorem fq66_2 (x:AV):E1 A0 Lt 2 x=A9 x 3:=rfl
theorem fq66_3 (x:AV):E1 A0 Lt 3 x=A9 x 4:=rfl
theorem fq66_4 (x:AV):E1 A0 Lt 4 x=A9 x 5:=rfl
theorem fq66_5 (x:AV):E1 A0 Lt 5 x=A9 x 8:=rfl
theorem ont68 {f:TI->OpS}:V1 A0 68 f=f Zr:=rfl
theorem ty68_z:Zr.size=2:=rfl
theorem ty68_0:Zr.zero=.agg [(.int .i64 0),(.int .i64 0)]:=rfl
def wM (i:Nat):Option (Nat × Nat):=A3 (Gm [(3,0),(3,1)] i) fun f=>onTI A0 f.1 none fun g=>some (f.2,g.size)
theorem bd68 (ps:List (Nat × AV)):M1 A0 Zr ps=qS (L6 wM ps Zr.zero.cells):=rfl
theorem pl68_0:wM 0=some (0,1):=rfl
theorem fq68_0 (x:AV):E1 A0 Zr 0 x=A9 x 0:=rfl
theorem pl68_1:wM 1=some (1,1):=rfl
theorem fq68_1 (x:AV):E1 A0 Zr 1 x=A9 x 1:=rfl
theorem ont113 {f:TI->OpS}:V1 A0 113 f=f nH:=rfl
theorem ty113_d:nH.desc=.int .i8:=rfl
theorem ont126 {f:TI->OpS}:V1 A0 126 f=f nI:=rfl
theorem ty126_d:nI.desc=.int .u64:=rfl
end
end Go.Proofs.AmEnv
set_option maxRecDepth 100000
namespace Go.Proofs.AmEnv
open Go Go.AM
def XQ:=And.intro @e_seq (And.intro @seqP_normal (And.intro @seqP_exit (And.intro @seqP_ret (And.intro @seqP_pan (And.intro @e_skip (And.intro @e_exit (And.intro @e_ret (And.intro @e_reg (And.intro @e_regD (And.intro @e_pre (And.intro @e_cond (And.intro @condP_true (And.intro @condP_false (And.intro @e_block (And.intro @blkP_normal (And.intro @blkP_exit (And.intro @blkP_ret (And.intro @blkP_pan (And.intro @e_post (And.intro @postP_normal (And.intro @postP_exit (And.intro @postP_ret (And.intro @postP_pan (And.intro @callK_val (And.intro @callK_pan (And.intro @doP_val (And.intro @doP_call (And.intro @doP_pan (And.intro @e_nil (And.intro @e_op (And.intro @e_opS (And.intro @e_opY (And.intro @callD_val (And.intro @callD_pan (And.intro @callQ_pan (And.intro @v_nil (And.intro @v_late (And.intro @v_op (And.intro @doV_val (And.intro @doD_val (And.intro @doD_call (And.intro @callQ_val (And.intro @doQ_val (And.intro @doQ_call (And.intro @doQ_sep (And.intro @callQ_sep (And.intro @callS_val (And.intro @doS_val (And.intro @doS_call (And.intro @s_nil (And.intro @s_op (And.intro @s_ld (And.intro @cv_ptr (And.intro @e_nilD (And.intro @d_op (And.intro @d_opQ (And.intro @d_opS (And.intro @d_opY (And.intro @d_opYQ (And.intro @bodyP_ret (And.intro @bodyP_norm (And.intro @bodyP_pan (And.intro @lk_hit (And.intro @lk_cons (And.intro @st_some (And.intro @st_none (And.intro @ov_tmp (And.intro @ov_int (And.intro @ov_bool (And.intro @ov_str (And.intro @ov_nsl (And.intro @ov_npt (And.intro @ov_func (And.intro @ol_nil (And.intro @ol_cons (And.intro @oq_nil (And.intro @oq_cons (And.intro @oo_none (And.intro @oo_some (And.intro @en_nil (And.intro @en_cons (And.intro @one_1 (And.intro @one_2 (And.intro @one_0 (And.intro @ofV_some (And.intro @ofO_some (And.intro @pr_move (And.intro @pr_assign (And.intro @pr_pick (And.intro @pick_true (And.intro @pick_false (And.intro @pr_alloc (And.intro @pr_box (And.intro @pr_build (And.intro @pr_buildSl (And.intro @pr_load (And.intro @pr_store (And.intro @pr_nil (And.intro @pr_bin (And.intro @pr_un (And.intro @pr_conv (And.intro @pr_fn (And.intro @pr_slice (And.intro @pr_fa (And.intro @pr_ia (And.intro @pr_ex (And.intro @pr_bui (And.intro @pr_call (And.intro @pr_callv (And.intro @callP_fn (And.intro @bp_add (And.intro @bp_sub (And.intro @bp_mul (And.intro @bp_eql (And.intro @bp_neq (And.intro @bp_lss (And.intro @bp_leq (And.intro @bp_gtr (And.intro @bp_geq (And.intro @bp_eqlS (And.intro @bp_neqS (And.intro @wt_true (And.intro @wt_false (And.intro @wt_skip (And.intro @as_nat (And.intro @ln_fsl (And.intro @ln_msl (And.intro @ix_fsl (And.intro @ix_msl (And.intro @exP_tup (And.intro @ld_f (And.intro @ld_p (And.intro @ldR_some (And.intro @ldE_some (And.intro @tb_nil (And.intro @tb_eq (And.intro @tbE_row (And.intro @te_eq (And.intro @teE_flat (And.intro @teE_row (And.intro @te_fsl (And.intro @ap_eq (And.intro @ap1_some (And.intro @ap2_some (And.intro @cl_int (And.intro @cl_bool (And.intro @cl_str (And.intro @cl_own (And.intro @cl_msl (And.intro @ag_int (And.intro @ag_agg (And.intro @cl_nsl (And.intro @ce_int (And.intro @ce_bool (And.intro @ce_str (And.intro @ce_agg (And.intro @ce_nsl (And.intro @ce_msl (And.intro @ce_own (And.intro @fl_nil (And.intro @fl_cons (And.intro @ro6 (And.intro @rwE_row (And.intro @rwE_sub (And.intro @rwS_some (And.intro @rwC_some (And.intro @rwD_some (And.intro @ow_own (And.intro @rt_eq (And.intro @rtE_row (And.intro @rtE_sub (And.intro @ch_eq (And.intro @chE_row (And.intro @kp_eq (And.intro @kg_nil (And.intro @kg_row (And.intro @kg_dead (And.intro @kg_sub (And.intro @mf_nil (And.intro @mf_cons (And.intro @mo_nil (And.intro @mo_cons (And.intro @mp_1 (And.intro @mp_2 (And.intro @mk1_eq (And.intro @mk2_eq (And.intro @sm_eq (And.intro @smE_row (And.intro @smE_row1 (And.intro @smE_dead (And.intro @mi_eq (And.intro @rs_nil (And.intro @rs_cons (And.intro @rg_0 (And.intro @rg_1 (And.intro @rg_2 (And.intro @rg_3 (And.intro @rg_4 (And.intro @rp_nil (And.intro @rp_cons (And.intro @po_cons (And.intro @rv_int (And.intro @rv_bool (And.intro @rv_str (And.intro @rv_agg (And.intro @rv_fsl (And.intro @rv_msl (And.intro @rv_ptr (And.intro @rv_nsl (And.intro @rv_fn (And.intro @rl_nil (And.intro @rl_cons (And.intro @rnM_some (And.intro @rnP_some (And.intro @et_eq (And.intro @enE_some (And.intro @rp_row (And.intro @rp_row1 (And.intro @rp_dead (And.intro @rf_int (And.intro @rf_bool (And.intro @rf_str (And.intro @rf_agg (And.intro @rf_fsl (And.intro @rf_msl (And.intro @rf_ptr (And.intro @rf_nsl (And.intro @rf_fn (And.intro @rfl_nil (And.intro @rfl_cons (And.intro @bk_nil (And.intro @bk_cons (And.intro @bv_eq (And.intro @bs_nil (And.intro @bs_cons (And.intro @bc_msl (And.intro @lv_agg (And.intro @lv_msl (And.intro @lv_int (And.intro @lv_bool (And.intro @lv_str (And.intro @lv_own (And.intro @lv_nsl (And.intro @hd_cons (And.intro @os_nil (And.intro @os_cons (And.intro @ot_nil (And.intro @ot_own (And.intro @ot_int (And.intro @ot_bool (And.intro @va_nil (And.intro @va_cons (And.intro @co_some (And.intro @vv_int (And.intro @vv_bool (And.intro @vv_str (And.intro @wv_int (And.intro @wv_str (And.intro @agO_some (And.intro @vv_agg (And.intro @vl_nil (And.intro @vl_cons (And.intro @fsO_some (And.intro @vv_msl (And.intro @wv_msl (And.intro @vmE_some (And.intro @fz_nil (And.intro @fz_cons (And.intro @fz_int (And.intro @fz_str (And.intro @fz_agg (And.intro @nf_int (And.intro @nf_bool (And.intro @nf_agg (And.intro @nf_own (And.intro @nfl_nil (And.intro @nfl_cons (And.intro @or_nil (And.intro @or_cons (And.intro @on_int (And.intro @on_bool (And.intro @ok_int (And.intro @ok_str (And.intro @ok_msl (And.intro @ok_ptr (And.intro @ok_nsl (And.intro @nr_eq (And.intro @bx_eq (And.intro @wc_agg (And.intro @wc_int (And.intro @wc_nsl (And.intro @ra_eq (And.intro @raE_0 (And.intro @raE_1 (And.intro @raE_sub (And.intro @sr_eq (And.intro @srE_row (And.intro @srE_sub (And.intro @srS_some (And.intro @srC_some (And.intro @srD_some (And.intro @spR_some (And.intro @spE_some (And.intro @spB_true (And.intro @spB_false (And.intro @spC_true (And.intro @spC_false (And.intro @spO_some (And.intro @spQ_some (And.intro @spS_some (And.intro @rl_1 (And.intro @sc_nil (And.intro @sc_clo (And.intro @sc_msl (And.intro @scM_row (And.intro @scK_some (And.intro @rsT_some (And.intro @rsC_val (And.intro @rsO_some (And.intro @rs_0 (And.intro @rs_tmp (And.intro @rs_cell (And.intro @ok_fslN (And.intro @ce_fslN (And.intro @rf_fslN (And.intro @rv_fslN (And.intro @fz_fslN (And.intro @vv_fslN (And.intro @wv_fslN (And.intro @ln_fslN (And.intro @ix_fslN (And.intro @lv_fslN (And.intro @te_fslN (And.intro @pf_f (And.intro @pf_p (And.intro @ldW_eq (And.intro @oc_nil (And.intro @oc_own (And.intro @oc_int (And.intro @oc_str (And.intro @oc_fslN (And.intro @oc_msl (And.intro @oc_ptr (And.intro @oc_nsl (And.intro @lv_ptr (And.intro @ce_ptr (And.intro @bs_eq (And.intro @bsE_some (And.intro @pl_nil (And.intro @pl_cons (And.intro @plE_some (And.intro @rl_0 (And.intro @rl_2 (And.intro @rl_5 (And.intro @rl_7 (And.intro @tk_all (And.intro @fp_ok (And.intro @fbK_some (And.intro @fb_nil (And.intro @fbP_some (And.intro @fb_cons (And.intro @agM_some (And.intro @inpK_val (And.intro @wp_eq (And.intro @wpE_some (And.intro @ap2_nil (And.intro @ro5 (And.intro @pr_pan (And.intro @panP_i (And.intro @nc_ptr (And.intro @inpK_pan (And.intro @fl_none (And.intro @rtQ_eq (And.intro @rtQ_row (And.intro @Option.map_some.{0,0} (And.intro @List.take_succ_cons.{0} (And.intro @List.take_zero.{0} (And.intro @List.drop_succ_cons.{0} (And.intro @List.drop_zero.{0} (And.intro @Option.map_none.{0,0} (And.intro @List.all_cons.{0} (And.intro @List.all_nil.{0} (And.intro @List.isEmpty_cons.{0} (And.intro @List.isEmpty_nil.{0} (And.intro @List.mem_cons.{0} (And.intro @List.not_mem_nil.{0} (And.intro @or_false (And.intro @false_or (And.intro @or_true (And.intro @true_or (And.intro @not_false_eq_true (And.intro @not_true_eq_false (And.intro @and_true (And.intro @true_and (And.intro @and_self (And.intro @Bool.and_self (And.intro @Bool.and_true (And.intro @Bool.true_and (And.intro @List.set_cons_zero.{0} (And.intro @List.set_cons_succ.{0} (And.intro @List.flatMap_cons.{0,0} (And.intro @List.flatMap_nil.{0,0} (And.intro @List.filter_cons.{0} (And.intro @List.filter_nil.{0} (And.intro @eq_self.{1} (And.intro @List.nodup_cons.{0} (And.intro @List.nodup_nil.{0} (And.intro @Option.isSome_some.{0} (And.intro @Option.isSome_none.{0} (And.intro @Bool.or_true (And.intro @Bool.or_false (And.intro @Bool.true_or (And.intro @Bool.false_or (And.intro @Nat.le_refl (And.intro @Nat.lt_irrefl (And.intro @Nat.not_lt_zero (And.intro @Nat.zero_le (And.intro @decide_eq_true_eq (And.intro @ne_eq.{1} (And.intro @List.cons_append.{0} (And.intro @List.nil_append.{0} (And.intro @List.append_nil.{0} (And.intro @List.length_cons.{0} (And.intro @List.length_nil.{0} (And.intro @List.getElem?_cons_zero.{0} (And.intro @List.getElem?_cons_succ.{0} (And.intro @List.getElem?_nil.{0} (And.intro @Nat.add_zero (And.intro @Bool.not_true (And.intro @Bool.not_false (And.intro @decide_true (And.intro @decide_false (And.intro @Option.some.injEq.{0} (And.intro @Bool.true_eq_false (And.intro @Bool.false_eq_true (And.intro @u_not (And.intro @Option.isNone_some.{0} (And.intro @Option.isNone_none.{0} (And.intro @Bool.and_false (And.intro @Bool.false_and (And.intro @cond_false.{1} (And.intro @cond_true.{1} (And.intro @ont2 (And.intro @ont3 (And.intro @ty3_z (And.intro @ty3_b (And.intro @ty3_d (And.intro @ft3 (And.intro @ty3_0 (And.intro @pt3 (And.intro @ont9 (And.intro @pt9 (And.intro @ont21 (And.intro @ty21_d (And.intro @ont22 (And.intro @pt22 (And.intro @ln22 (And.intro @ix22 (And.intro @ont23 (And.intro @ty23_d (And.intro @pt23 (And.intro @el23 (And.intro @ln23 (And.intro @ix23 (And.intro @ont25 (And.intro @ty25_z (And.intro @ty25_0 (And.intro @bd25 (And.intro @fq25_0 (And.intro @pl25_1 (And.intro @fq25_1 (And.intro @pt25 (And.intro @ont26 (And.intro @ty26_z (And.intro @ty26_b (And.intro @ty26_d (And.intro @ft26 (And.intro @ty26_0 (And.intro @pt26 (And.intro @el26 (And.intro @ln26 (And.intro @ap26 (And.intro @ix26 (And.intro @ont28 (And.intro @ty28_z (And.intro @fq28_0 (And.intro @fq28_1 (And.intro @fq28_2 (And.intro @fq28_3 (And.intro @ont35 (And.intro @ty35_z (And.intro @ty35_0 (And.intro @bd35 (And.intro @pl35_0 (And.intro @fq35_0 (And.intro @pl35_1 (And.intro @fq35_1 (And.intro @pl35_2 (And.intro @fq35_2 (And.intro @pt35 (And.intro @ont46 (And.intro @ty46_z (And.intro @ty46_0 (And.intro @fq46_1 (And.intro @fq46_2 (And.intro @pt46 (And.intro @ont47 (And.intro @ty47_d (And.intro @pt47 (And.intro @el47 (And.intro @ln47 (And.intro @ix47 (And.intro @ont49 (And.intro @ty49_z (And.intro @ty49_0 (And.intro @bd49 (And.intro @pl49_0 (And.intro @fq49_0 (And.intro @pl49_1 (And.intro @fq49_1 (And.intro @fq49_2 (And.intro @pl49_3 (And.intro @fq49_3 (And.intro @pl49_4 (And.intro @fq49_4 (And.intro @pt49 (And.intro @ont50 (And.intro @ty50_d (And.intro @pt50 (And.intro @el50 (And.intro @ln50 (And.intro @ix50 (And.intro @ont52 (And.intro @ty52_z (And.intro @ty52_0 (And.intro @bd52 (And.intro @pl52_0 (And.intro @fq52_0 (And.intro @fq52_1 (And.intro @fq52_2 (And.intro @fq52_3 (And.intro @pt52 (And.intro @ont54 (And.intro @ty54_z (And.intro @ty54_0 (And.intro @bd54 (And.intro @pl54_0 (And.intro @fq54_0 (And.intro @pl54_1 (And.intro @fq54_1 (And.intro @pt54 (And.intro @ont56 (And.intro @ty56_z (And.intro @ty56_0 (And.intro @bd56 (And.intro @pl56_0 (And.intro @fq56_0 (And.intro @fq56_1 (And.intro @pl56_2 (And.intro @fq56_2 (And.intro @fq56_3 (And.intro @fq56_4 (And.intro @pl56_5 (And.intro @fq56_5 (And.intro @fq56_6 (And.intro @fq56_7 (And.intro @pt56 (And.intro @ont59 (And.intro @ty59_z (And.intro @ty59_0 (And.intro @bd59 (And.intro @pl59_0 (And.intro @fq59_0 (And.intro @pl59_1 (And.intro @fq59_1 (And.intro @pt59 (And.intro @ont63 (And.intro @ty63_z (And.intro @ty63_0 (And.intro @pt63 (And.intro @ont64 (And.intro @ty64_z (And.intro @ty64_d (And.intro @pt64 (And.intro @el64 (And.intro @ap64 (And.intro @ix64 (And.intro @ont66 (And.intro @ty66_z (And.intro @ty66_0 (And.intro @bd66 (And.intro @pl66_0 (And.intro @fq66_0 (And.intro @pl66_1 (And.intro @fq66_1 (And.intro @pl66_2 (And.intro @fq66_2 (And.intro @fq66_3 (And.intro @fq66_4 (And.intro @fq66_5 (And.intro @ont68 (And.intro @ty68_z (And.intro @ty68_0 (And.intro @bd68 (And.intro @pl68_0 (And.intro @fq68_0 (And.intro @pl68_1 (And.intro @fq68_1 (And.intro @ont113 (And.intro @ty113_d (And.intro @ont126 (And.intro @ty126_d (And.intro @xo_eq (And.intro @xm_eq (And.intro @xg_eq (And.intro @tm_eq (And.intro @ki_eq (And.intro @cl_eq (And.intro @xa_eq (And.intro @xl_eq (And.intro @xf_eq (And.intro @xi_eq (And.intro @xn_eq (And.intro @xs_eq (And.intro @xb_eq (And.intro @gl_eq (And.intro @gf_eq (@R_eq))))))))))))))))))))))))))))))))))))))))))))))))))))))))))))))))))))))))))))))))))))))))))))))))))))))))))))))))))))))))))))))))))))))))))))))))))))))))))))))))))))))))))))))))))))))))))))))))))))))))))))))))))))))))))))))))))))))))))))))))))))))))))))))))))))))))))))))))))))))))))))))))))))))))))))))))))))))))))))))))))))))))))))))))))))))))))))))))))))))))))))))))))))))))))))))))))))))))))))))))))))))))))))))))))))))))))))))))))))))))))))))))))))))))))))))))))))))))))))))))))))))))))))))))))))))))))))))))))))))))))))))))))))))))))))))))))))))))))))))))))))))))))))))))))))))))))))))))))))))))))))))))))))))))))))))))))))
def XP:=And.intro XQ (And.intro @sp_eq Nat.zero_add)
end Go.Proofs.AmEnv
