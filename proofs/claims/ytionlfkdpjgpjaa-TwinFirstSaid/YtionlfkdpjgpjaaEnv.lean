/- The tables of this program's types and functions, facts on them, and the rules. Conditions: none. -/
import Derived.Test.YtionlfkdpjgpjaaCode
set_option linter.unusedVariables false
set_option linter.unusedSimpArgs false
set_option linter.unusedSectionVars false
set_option linter.defProp false
set_option maxRecDepth 100000
namespace Go.Proofs.AmEnv
open Go.AM
noncomputable def Zm:TI:=⟨.int .i64,1,8,.int .i64 0⟩
noncomputable def xF:TI:=⟨.bool,1,1,.bool false⟩
noncomputable def xG:TI:=⟨.string,1,16,.str []⟩
noncomputable def sP:TI:=⟨.int .i32,1,4,.int .i32 0⟩
noncomputable def eP:TI:=⟨.slice 96,1,24,.nilsl⟩
noncomputable def eQ:TI:=⟨.slice 31,1,24,.nilsl⟩
noncomputable def Wh:TI:=⟨.struct [(22,0),(23,1)] false,2,48,.agg [.nilsl,.nilsl]⟩
noncomputable def Tf:TI:=⟨.slice 3,1,24,.nilsl⟩
noncomputable def Wi:TI:=⟨.slice 41,1,24,.nilsl⟩
noncomputable def Bc:TI:=⟨.struct [(9,0),(3,1),(3,2),(28,3),(29,4)] false,5,80,.agg [(.str []),(.int .i64 0),(.int .i64 0),.nilsl,.nilsl]⟩
noncomputable def FC:TI:=⟨.func,1,8,.nilfn⟩
noncomputable def FD:TI:=⟨.func,1,8,.nilfn⟩
noncomputable def Wj:TI:=⟨.slice 77,1,24,.nilsl⟩
noncomputable def FE:TI:=⟨.struct [(3,0),(3,1),(3,2),(3,3)] true,4,32,.agg [(.int .i64 0),(.int .i64 0),(.int .i64 0),(.int .i64 0)]⟩
noncomputable def Bd:TI:=⟨.struct [(3,0),(3,1),(3,2),(3,3)] true,4,32,.agg [(.int .i64 0),(.int .i64 0),(.int .i64 0),(.int .i64 0)]⟩
noncomputable def Aa:TI:=⟨.struct [(37,0),(39,1)] false,5,56,.agg [.nilsl,(.int .i64 0),(.int .i64 0),(.int .i64 0),(.int .i64 0)]⟩
noncomputable def FF:TI:=⟨.func,1,8,.nilfn⟩
noncomputable def FG:TI:=⟨.func,1,8,.nilfn⟩
noncomputable def FH:TI:=⟨.func,1,8,.nilfn⟩
noncomputable def FJ:TI:=⟨.func,1,8,.nilfn⟩
noncomputable def FK:TI:=⟨.slice 4,1,24,.nilsl⟩
noncomputable def FL:TI:=⟨.int .i64,1,8,.int .i64 0⟩
noncomputable def FN:TI:=⟨.func,1,8,.nilfn⟩
noncomputable def FO:TI:=⟨.slice 66,1,24,.nilsl⟩
noncomputable def FP:TI:=⟨.struct [(28,0),(54,1)] false,2,48,.agg [.nilsl,.nilsl]⟩
noncomputable def c8:TI:=⟨.struct [(3,0),(3,1),(3,2),(3,3),(3,4),(3,5),(9,6),(28,7)] false,8,88,.agg [(.int .i64 0),(.int .i64 0),(.int .i64 0),(.int .i64 0),(.int .i64 0),(.int .i64 0),(.str []),.nilsl]⟩
noncomputable def FQ:TI:=⟨.func,1,8,.nilfn⟩
noncomputable def FR:TI:=⟨.func,1,8,.nilfn⟩
noncomputable def Mu:TI:=⟨.struct [(9,0),(3,1),(3,2),(3,3)] true,4,40,.agg [(.str []),(.int .i64 0),(.int .i64 0),(.int .i64 0)]⟩
noncomputable def FS:TI:=⟨.func,1,8,.nilfn⟩
noncomputable def xH:TI:=⟨.func,1,8,.nilfn⟩
noncomputable def xI:TI:=⟨.func,1,8,.nilfn⟩
noncomputable def xJ:TI:=⟨.func,1,8,.nilfn⟩
noncomputable def xK:TI:=⟨.func,1,8,.nilfn⟩
noncomputable def Fk:TI:=⟨.struct [(25,0),(31,2)] false,7,128,.agg [.nilsl,.nilsl,(.str []),(.int .i64 0),(.int .i64 0),.nilsl,.nilsl]⟩
noncomputable def xL:TI:=⟨.map 3 188,1,8,.nilmap⟩
noncomputable def xM:TI:=⟨.struct [(31,0),(122,5)] false,6,88,.agg [(.str []),(.int .i64 0),(.int .i64 0),.nilsl,.nilsl,.nilmap]⟩
noncomputable def cF:TI:=⟨.slice 39,1,24,.nilsl⟩
noncomputable def xN:TI:=⟨.ptr 3,1,8,.nilptr⟩
noncomputable def xO:TI:=⟨.func,1,8,.nilfn⟩
noncomputable def xP:TI:=⟨.func,1,8,.nilfn⟩
noncomputable def xQ:TI:=⟨.func,1,8,.nilfn⟩
noncomputable def jA:TI:=⟨.int .i8,1,1,.int .i8 0⟩
noncomputable def ti (t:Nat):Option TI :=
 bif Nat.blt t 55 then (bif Nat.blt t 32 then (bif Nat.blt t 23 then (bif Nat.blt t 9 then (bif Nat.blt t 4 then (bif Nat.beq t 3 then some Zm else none) else (bif Nat.beq t 4 then some xF else none)) else (bif Nat.blt t 21 then (bif Nat.beq t 9 then some xG else none) else (bif Nat.blt t 22 then (bif Nat.beq t 21 then some sP else none) else (bif Nat.beq t 22 then some eP else none)))) else (bif Nat.blt t 28 then (bif Nat.blt t 25 then (bif Nat.beq t 23 then some eQ else none) else (bif Nat.beq t 25 then some Wh else none)) else (bif Nat.blt t 29 then (bif Nat.beq t 28 then some Tf else none) else (bif Nat.blt t 31 then (bif Nat.beq t 29 then some Wi else none) else (bif Nat.beq t 31 then some Bc else none))))) else (bif Nat.blt t 41 then (bif Nat.blt t 37 then (bif Nat.blt t 33 then (bif Nat.beq t 32 then some FC else none) else (bif Nat.beq t 33 then some FD else none)) else (bif Nat.blt t 38 then (bif Nat.beq t 37 then some Wj else none) else (bif Nat.blt t 39 then (bif Nat.beq t 38 then some FE else none) else (bif Nat.beq t 39 then some Bd else none)))) else (bif Nat.blt t 45 then (bif Nat.blt t 42 then (bif Nat.beq t 41 then some Aa else none) else (bif Nat.blt t 43 then (bif Nat.beq t 42 then some FF else none) else (bif Nat.beq t 43 then some FG else none))) else (bif Nat.blt t 47 then (bif Nat.beq t 45 then some FH else none) else (bif Nat.blt t 54 then (bif Nat.beq t 47 then some FJ else none) else (bif Nat.beq t 54 then some FK else none)))))) else (bif Nat.blt t 110 then (bif Nat.blt t 82 then (bif Nat.blt t 62 then (bif Nat.blt t 61 then (bif Nat.beq t 55 then some FL else none) else (bif Nat.beq t 61 then some FN else none)) else (bif Nat.blt t 66 then (bif Nat.beq t 62 then some FO else none) else (bif Nat.blt t 77 then (bif Nat.beq t 66 then some FP else none) else (bif Nat.beq t 77 then some c8 else none)))) else (bif Nat.blt t 97 then (bif Nat.blt t 94 then (bif Nat.beq t 82 then some FQ else none) else (bif Nat.blt t 96 then (bif Nat.beq t 94 then some FR else none) else (bif Nat.beq t 96 then some Mu else none))) else (bif Nat.blt t 105 then (bif Nat.beq t 97 then some FS else none) else (bif Nat.blt t 109 then (bif Nat.beq t 105 then some xH else none) else (bif Nat.beq t 109 then some xI else none))))) else (bif Nat.blt t 161 then (bif Nat.blt t 116 then (bif Nat.blt t 113 then (bif Nat.beq t 110 then some xJ else none) else (bif Nat.beq t 113 then some xK else none)) else (bif Nat.blt t 122 then (bif Nat.beq t 116 then some Fk else none) else (bif Nat.blt t 124 then (bif Nat.beq t 122 then some xL else none) else (bif Nat.beq t 124 then some xM else none)))) else (bif Nat.blt t 220 then (bif Nat.blt t 163 then (bif Nat.beq t 161 then some cF else none) else (bif Nat.blt t 170 then (bif Nat.beq t 163 then some xN else none) else (bif Nat.beq t 170 then some xO else none))) else (bif Nat.blt t 223 then (bif Nat.beq t 220 then some xP else none) else (bif Nat.blt t 225 then (bif Nat.beq t 223 then some xQ else none) else (bif Nat.beq t 225 then some jA else none))))))
noncomputable def fn (f:Nat):Option FI :=
 bif Nat.blt f 158 then (bif Nat.blt f 67 then (bif Nat.blt f 22 then (bif Nat.blt f 17 then (bif Nat.blt f 14 then (bif Nat.beq f 4 then some LQ else none) else (bif Nat.blt f 15 then (bif Nat.beq f 14 then some EJ else none) else (bif Nat.beq f 15 then some EK else none))) else (bif Nat.blt f 19 then (bif Nat.beq f 17 then some EL else none) else (bif Nat.blt f 21 then (bif Nat.beq f 19 then some EM else none) else (bif Nat.beq f 21 then some EN else none)))) else (bif Nat.blt f 40 then (bif Nat.blt f 23 then (bif Nat.beq f 22 then some EO else none) else (bif Nat.blt f 39 then (bif Nat.beq f 23 then some EP else none) else (bif Nat.beq f 39 then some EQ else none))) else (bif Nat.blt f 65 then (bif Nat.beq f 40 then some ER else none) else (bif Nat.blt f 66 then (bif Nat.beq f 65 then some ES else none) else (bif Nat.beq f 66 then some ET else none))))) else (bif Nat.blt f 75 then (bif Nat.blt f 71 then (bif Nat.blt f 68 then (bif Nat.beq f 67 then some EU else none) else (bif Nat.blt f 70 then (bif Nat.beq f 68 then some EV else none) else (bif Nat.beq f 70 then some EW else none))) else (bif Nat.blt f 72 then (bif Nat.beq f 71 then some EX else none) else (bif Nat.blt f 73 then (bif Nat.beq f 72 then some EY else none) else (bif Nat.beq f 73 then some EZ else none)))) else (bif Nat.blt f 111 then (bif Nat.blt f 78 then (bif Nat.beq f 75 then some FA else none) else (bif Nat.blt f 108 then (bif Nat.beq f 78 then some FB else none) else (bif Nat.beq f 108 then some wA else none))) else (bif Nat.blt f 113 then (bif Nat.blt f 112 then (bif Nat.beq f 111 then some wB else none) else (bif Nat.beq f 112 then some wC else none)) else (bif Nat.blt f 157 then (bif Nat.beq f 113 then some wD else none) else (bif Nat.beq f 157 then some wE else none)))))) else (bif Nat.blt f 222 then (bif Nat.blt f 177 then (bif Nat.blt f 174 then (bif Nat.blt f 162 then (bif Nat.beq f 158 then some wF else none) else (bif Nat.blt f 170 then (bif Nat.beq f 162 then some wG else none) else (bif Nat.beq f 170 then some wH else none))) else (bif Nat.blt f 175 then (bif Nat.beq f 174 then some wI else none) else (bif Nat.blt f 176 then (bif Nat.beq f 175 then some wJ else none) else (bif Nat.beq f 176 then some wK else none)))) else (bif Nat.blt f 216 then (bif Nat.blt f 178 then (bif Nat.beq f 177 then some wL else none) else (bif Nat.blt f 182 then (bif Nat.beq f 178 then some wM else none) else (bif Nat.beq f 182 then some wN else none))) else (bif Nat.blt f 218 then (bif Nat.blt f 217 then (bif Nat.beq f 216 then some wO else none) else (bif Nat.beq f 217 then some wP else none)) else (bif Nat.blt f 221 then (bif Nat.beq f 218 then some wQ else none) else (bif Nat.beq f 221 then some wR else none))))) else (bif Nat.blt f 246 then (bif Nat.blt f 225 then (bif Nat.blt f 223 then (bif Nat.beq f 222 then some wS else none) else (bif Nat.blt f 224 then (bif Nat.beq f 223 then some wT else none) else (bif Nat.beq f 224 then some wU else none))) else (bif Nat.blt f 241 then (bif Nat.beq f 225 then some wV else none) else (bif Nat.blt f 242 then (bif Nat.beq f 241 then some wW else none) else (bif Nat.beq f 242 then some wX else none)))) else (bif Nat.blt f 249 then (bif Nat.blt f 247 then (bif Nat.beq f 246 then some wY else none) else (bif Nat.blt f 248 then (bif Nat.beq f 247 then some wZ else none) else (bif Nat.beq f 248 then some xA else none))) else (bif Nat.blt f 262 then (bif Nat.blt f 250 then (bif Nat.beq f 249 then some xB else none) else (bif Nat.beq f 250 then some xC else none)) else (bif Nat.blt f 264 then (bif Nat.beq f 262 then some xD else none) else (bif Nat.beq f 264 then some xE else none))))))
noncomputable def A0:Env:=⟨ti,fn,fun _=>none,fun f=>Nat.beq f 245,some 0,fun _=>false,fun _=>none,fun _ _=>false⟩
noncomputable section
def A3 (f:Nat):Option PFn:=bif Nat.blt f 158 then (bif Nat.blt f 67 then (bif Nat.blt f 22 then (bif Nat.blt f 17 then (bif Nat.blt f 14 then (bif Nat.beq f 4 then some IQ else none) else (bif Nat.blt f 15 then (bif Nat.beq f 14 then some vH else none) else (bif Nat.beq f 15 then some vI else none))) else (bif Nat.blt f 19 then (bif Nat.beq f 17 then some vJ else none) else (bif Nat.blt f 21 then (bif Nat.beq f 19 then some vK else none) else (bif Nat.beq f 21 then some vL else none)))) else (bif Nat.blt f 40 then (bif Nat.blt f 23 then (bif Nat.beq f 22 then some vM else none) else (bif Nat.blt f 39 then (bif Nat.beq f 23 then some vN else none) else (bif Nat.beq f 39 then some vO else none))) else (bif Nat.blt f 65 then (bif Nat.beq f 40 then some vP else none) else (bif Nat.blt f 66 then (bif Nat.beq f 65 then some vQ else none) else (bif Nat.beq f 66 then some vR else none))))) else (bif Nat.blt f 75 then (bif Nat.blt f 71 then (bif Nat.blt f 68 then (bif Nat.beq f 67 then some vS else none) else (bif Nat.blt f 70 then (bif Nat.beq f 68 then some vT else none) else (bif Nat.beq f 70 then some vU else none))) else (bif Nat.blt f 72 then (bif Nat.beq f 71 then some vV else none) else (bif Nat.blt f 73 then (bif Nat.beq f 72 then some vW else none) else (bif Nat.beq f 73 then some vX else none)))) else (bif Nat.blt f 111 then (bif Nat.blt f 78 then (bif Nat.beq f 75 then some vY else none) else (bif Nat.blt f 108 then (bif Nat.beq f 78 then some vZ else none) else (bif Nat.beq f 108 then some qF else none))) else (bif Nat.blt f 113 then (bif Nat.blt f 112 then (bif Nat.beq f 111 then some qG else none) else (bif Nat.beq f 112 then some qH else none)) else (bif Nat.blt f 157 then (bif Nat.beq f 113 then some qI else none) else (bif Nat.beq f 157 then some qJ else none)))))) else (bif Nat.blt f 222 then (bif Nat.blt f 177 then (bif Nat.blt f 174 then (bif Nat.blt f 162 then (bif Nat.beq f 158 then some qK else none) else (bif Nat.blt f 170 then (bif Nat.beq f 162 then some qL else none) else (bif Nat.beq f 170 then some qM else none))) else (bif Nat.blt f 175 then (bif Nat.beq f 174 then some qN else none) else (bif Nat.blt f 176 then (bif Nat.beq f 175 then some qO else none) else (bif Nat.beq f 176 then some qP else none)))) else (bif Nat.blt f 216 then (bif Nat.blt f 178 then (bif Nat.beq f 177 then some qQ else none) else (bif Nat.blt f 182 then (bif Nat.beq f 178 then some qR else none) else (bif Nat.beq f 182 then some qS else none))) else (bif Nat.blt f 218 then (bif Nat.blt f 217 then (bif Nat.beq f 216 then some qT else none) else (bif Nat.beq f 217 then some qU else none)) else (bif Nat.blt f 221 then (bif Nat.beq f 218 then some qV else none) else (bif Nat.beq f 221 then some qW else none))))) else (bif Nat.blt f 246 then (bif Nat.blt f 225 then (bif Nat.blt f 223 then (bif Nat.beq f 222 then some qX else none) else (bif Nat.blt f 224 then (bif Nat.beq f 223 then some qY else none) else (bif Nat.beq f 224 then some qZ else none))) else (bif Nat.blt f 241 then (bif Nat.beq f 225 then some rA else none) else (bif Nat.blt f 242 then (bif Nat.beq f 241 then some rB else none) else (bif Nat.beq f 242 then some rC else none)))) else (bif Nat.blt f 249 then (bif Nat.blt f 247 then (bif Nat.beq f 246 then some rD else none) else (bif Nat.blt f 248 then (bif Nat.beq f 247 then some rE else none) else (bif Nat.beq f 248 then some rF else none))) else (bif Nat.blt f 262 then (bif Nat.blt f 250 then (bif Nat.beq f 249 then some rG else none) else (bif Nat.beq f 250 then some rH else none)) else (bif Nat.blt f 264 then (bif Nat.beq f 262 then some rI else none) else (bif Nat.beq f 264 then some rJ else none))))))
end
end Go.Proofs.AmEnv
set_option maxRecDepth 100000
set_option linter.unusedVariables false
namespace Go.Proofs.AmEnv
open Go Go.AM
noncomputable section
theorem ont3 {f:TI->OpS}:V1 A0 3 f=f Zm:=rfl
theorem IR:A0.ti 3=some Zm:=rfl
theorem ty3_z:Zm.size=1:=rfl
theorem ty3_b:Zm.bytes=8:=rfl
theorem ty3_d:Zm.desc=.int .i64:=rfl
theorem ft3:flatT Zm=true:=rfl
theorem ty3_0:Zm.zero=.int .i64 0:=rfl
theorem pt3 (cs:List AV) (o:Nat):partOf Zm cs o=cs[o]?:=N6 rfl cs o
theorem ont4 {f:TI->OpS}:V1 A0 4 f=f xF:=rfl
theorem ty4_z:xF.size=1:=rfl
theorem ty4_0:xF.zero=.bool false:=rfl
theorem pt4 (cs:List AV) (o:Nat):partOf xF cs o=cs[o]?:=N6 rfl cs o
theorem ont9 {f:TI->OpS}:V1 A0 9 f=f xG:=rfl
theorem LR:A0.ti 9=some xG:=rfl
theorem pt9 (cs:List AV) (o:Nat):partOf xG cs o=cs[o]?:=N6 rfl cs o
theorem ont21 {f:TI->OpS}:V1 A0 21 f=f sP:=rfl
theorem ty21_d:sP.desc=.int .i32:=rfl
theorem ont22 {f:TI->OpS}:V1 A0 22 f=f eP:=rfl
theorem FT:A0.ti 22=some eP:=rfl
theorem pt22 (cs:List AV) (o:Nat):partOf eP cs o=cs[o]?:=N6 rfl cs o
theorem ln22 (l:List TypeId) (x:AV) (r:List AV) (K:PK):I6 A0 .len (22 :: l) (x :: r) K=oT x K:=rfl
theorem ix22 (x:AV) (i:AV):Gf A0 eP x i=Yb Mu x i:=rfl
theorem ont23 {f:TI->OpS}:V1 A0 23 f=f eQ:=rfl
theorem FU:A0.ti 23=some eQ:=rfl
theorem pt23 (cs:List AV) (o:Nat):partOf eQ cs o=cs[o]?:=N6 rfl cs o
theorem ln23 (l:List TypeId) (x:AV) (r:List AV) (K:PK):I6 A0 .len (23 :: l) (x :: r) K=oT x K:=rfl
theorem ix23 (x:AV) (i:AV):Gf A0 eQ x i=Yb Bc x i:=rfl
theorem ont25 {f:TI->OpS}:V1 A0 25 f=f Wh:=rfl
theorem FV:A0.ti 25=some Wh:=rfl
theorem ty25_z:Wh.size=2:=rfl
theorem fq25_0 (x:AV):I8 A0 Wh 0 x=B4 x 0:=rfl
theorem fq25_1 (x:AV):I8 A0 Wh 1 x=B4 x 1:=rfl
theorem pt25 (cs:List AV) (o:Nat):partOf Wh cs o=if o + 2≤cs.length then some (.agg ((cs.drop o).take 2)) else none:=Q9 rfl cs o
theorem ont28 {f:TI->OpS}:V1 A0 28 f=f Tf:=rfl
theorem FW:A0.ti 28=some Tf:=rfl
theorem ty28_z:Tf.size=1:=rfl
theorem ty28_d:Tf.desc=.slice 3:=rfl
theorem ty28_0:Tf.zero=.nilsl:=rfl
theorem pt28 (cs:List AV) (o:Nat):partOf Tf cs o=cs[o]?:=N6 rfl cs o
theorem el28:elemOfT A0 (.slice 3)=some Zm:=rfl
theorem ln28 (l:List TypeId) (x:AV) (r:List AV) (K:PK):I6 A0 .len (28 :: l) (x :: r) K=oT x K:=rfl
theorem ap28 (l:List TypeId) (s x:AV) (r:List AV) (K:PK):I6 A0 .append (28 :: 28 :: l) (s :: x :: r) K=j6 Zm s x K:=rfl
theorem ix28 (x:AV) (i:AV):Gf A0 Tf x i=Yb Zm x i:=rfl
theorem ont29 {f:TI->OpS}:V1 A0 29 f=f Wi:=rfl
theorem FX:A0.ti 29=some Wi:=rfl
theorem ty29_z:Wi.size=1:=rfl
theorem ty29_d:Wi.desc=.slice 41:=rfl
theorem pt29 (cs:List AV) (o:Nat):partOf Wi cs o=cs[o]?:=N6 rfl cs o
theorem el29:elemOfT A0 (.slice 41)=some Aa:=rfl
theorem ln29 (l:List TypeId) (x:AV) (r:List AV) (K:PK):I6 A0 .len (29 :: l) (x :: r) K=oT x K:=rfl
theorem ap29 (l:List TypeId) (s x:AV) (r:List AV) (K:PK):I6 A0 .append (29 :: 29 :: l) (s :: x :: r) K=j6 Aa s x K:=rfl
theorem ix29 (x:AV) (i:AV):Gf A0 Wi x i=Yb Aa x i:=rfl
theorem ont31 {f:TI->OpS}:V1 A0 31 f=f Bc:=rfl
theorem sQ:A0.ti 31=some Bc:=rfl
theorem ty31_z:Bc.size=5:=rfl
theorem ty31_0:Bc.zero=.agg [(.str []),(.int .i64 0),(.int .i64 0),.nilsl,.nilsl]:=rfl
def nF (i:Nat):Option (Nat × Nat):=A4 (Pj [(9,0),(3,1),(3,2),(28,3),(29,4)] i) fun f=>onTI A0 f.1 none fun g=>some (f.2,g.size)
theorem bd31 (ps:List (Nat × AV)):P0 A0 Bc ps=uN (N9 nF ps Bc.zero.cells):=rfl
theorem pl31_0:nF 0=some (0,1):=rfl
theorem fq31_0 (x:AV):I8 A0 Bc 0 x=B4 x 0:=rfl
theorem pl31_1:nF 1=some (1,1):=rfl
theorem fq31_1 (x:AV):I8 A0 Bc 1 x=B4 x 1:=rfl
theorem fq31_2 (x:AV):I8 A0 Bc 2 x=B4 x 2:=rfl
theorem pl31_3:nF 3=some (3,1):=rfl
theorem fq31_3 (x:AV):I8 A0 Bc 3 x=B4 x 3:=rfl
theorem fq31_4 (x:AV):I8 A0 Bc 4 x=B4 x 4:=rfl
theorem pt31 (cs:List AV) (o:Nat):partOf Bc cs o=if o + 5≤cs.length then some (.agg ((cs.drop o).take 5)) else none:=Q9 rfl cs o
theorem ont37 {f:TI->OpS}:V1 A0 37 f=f Wj:=rfl
theorem FY:A0.ti 37=some Wj:=rfl
theorem ty37_z:Wj.size=1:=rfl
theorem ty37_d:Wj.desc=.slice 77:=rfl
theorem pt37 (cs:List AV) (o:Nat):partOf Wj cs o=cs[o]?:=N6 rfl cs o
theorem el37:elemOfT A0 (.slice 77)=some c8:=rfl
theorem ln37 (l:List TypeId) (x:AV) (r:List AV) (K:PK):I6 A0 .len (37 :: l) (x :: r) K=oT x K:=rfl
theorem ap37 (l:List TypeId) (s x:AV) (r:List AV) (K:PK):I6 A0 .append (37 :: 37 :: l) (s :: x :: r) K=j6 c8 s x K:=rfl
theorem ix37 (x:AV) (i:AV):Gf A0 Wj x i=Yb c8 x i:=rfl
theorem ont39 {f:TI->OpS}:V1 A0 39 f=f Bd:=rfl
theorem FZ:A0.ti 39=some Bd:=rfl
theorem ty39_z:Bd.size=4:=rfl
theorem ty39_0:Bd.zero=.agg [(.int .i64 0),(.int .i64 0),(.int .i64 0),(.int .i64 0)]:=rfl
def jB (i:Nat):Option (Nat × Nat):=A4 (Pj [(3,0),(3,1),(3,2),(3,3)] i) fun f=>onTI A0 f.1 none fun g=>some (f.2,g.size)
theorem bd39 (ps:List (Nat × AV)):P0 A0 Bd ps=uN (N9 jB ps Bd.zero.cells):=rfl
theorem pl39_0:jB 0=some (0,1):=rfl
theorem fq39_0 (x:AV):I8 A0 Bd 0 x=B4 x 0:=rfl
theorem pl39_1:jB 1=some (1,1):=rfl
theorem fq39_1 (x:AV):I8 A0 Bd 1 x=B4 x 1:=rfl
theorem pl39_2:jB 2=some (2,1):=rfl
theorem fq39_2 (x:AV):I8 A0 Bd 2 x=B4 x 2:=rfl
theorem pl39_3:jB 3=some (3,1):=rfl
theorem fq39_3 (x:AV):I8 A0 Bd 3 x=B4 x 3:=rfl
theorem pt39 (cs:List AV) (o:Nat):partOf Bd cs o=if o + 4≤cs.length then some (.agg ((cs.drop o).take 4)) else none:=Q9 rfl cs o
theorem ont41 {f:TI->OpS}:V1 A0 41 f=f Aa:=rfl
theorem sR:A0.ti 41=some Aa:=rfl
theorem ty41_z:Aa.size=5:=rfl
theorem ty41_b:Aa.bytes=56:=rfl
theorem ft41:flatT Aa=false:=rfl
theorem ty41_0:Aa.zero=.agg [.nilsl,(.int .i64 0),(.int .i64 0),(.int .i64 0),(.int .i64 0)]:=rfl
def sS (i:Nat):Option (Nat × Nat):=A4 (Pj [(37,0),(39,1)] i) fun f=>onTI A0 f.1 none fun g=>some (f.2,g.size)
theorem bd41 (ps:List (Nat × AV)):P0 A0 Aa ps=uN (N9 sS ps Aa.zero.cells):=rfl
theorem pl41_0:sS 0=some (0,1):=rfl
theorem fq41_0 (x:AV):I8 A0 Aa 0 x=B4 x 0:=rfl
theorem pl41_1:sS 1=some (1,4):=rfl
theorem fq41_1 (x:AV):I8 A0 Aa 1 x=B4 x 1:=rfl
theorem pt41 (cs:List AV) (o:Nat):partOf Aa cs o=if o + 5≤cs.length then some (.agg ((cs.drop o).take 5)) else none:=Q9 rfl cs o
theorem ont77 {f:TI->OpS}:V1 A0 77 f=f c8:=rfl
theorem sT:A0.ti 77=some c8:=rfl
theorem ty77_z:c8.size=8:=rfl
theorem ty77_b:c8.bytes=88:=rfl
theorem ft77:flatT c8=false:=rfl
theorem ty77_0:c8.zero=.agg [(.int .i64 0),(.int .i64 0),(.int .i64 0),(.int .i64 0),(.int .i64 0),(.int .i64 0),(.str []),.nilsl]:=rfl
def xR (i:Nat):Option (Nat × Nat):=A4 (Pj [(3,0),(3,1),(3,2),(3,3),(3,4),(3,5),(9,6),(28,7)] i) fun f=>onTI A0 f.1 none fun g=>some (f.2,g.size)
theorem bd77 (ps:List (Nat × AV)):P0 A0 c8 ps=uN (N9 xR ps c8.zero.cells):=rfl
theorem pl77_0:xR 0=some (0,1):=rfl
theorem fq77_0 (x:AV):I8 A0 c8 0 x=B4 x 0:=rfl
theorem fq77_1 (x:AV):I8 A0 c8 1 x=B4 x 1:=rfl
theorem fq77_2 (x:AV):I8 A0 c8 2 x=B4 x 2:=rfl
theorem fq77_3 (x:AV):I8 A0 c8 3 x=B4 x 3:=rfl
theorem fq77_4 (x:AV):I8 A0 c8 4 x=B4 x 4:=rfl
theorem fq77_5 (x:AV):I8 A0 c8 5 x=B4 x 5:=rfl
theorem fq77_6 (x:AV):I8 A0 c8 6 x=B4 x 6:=rfl
theorem fq77_7 (x:AV):I8 A0 c8 7 x=B4 x 7:=rfl
theorem pt77 (cs:List AV) (o:Nat):partOf c8 cs o=if o + 8≤cs.length then some (.agg ((cs.drop o).take 8)) else none:=Q9 rfl cs o
theorem ont96 {f:TI->OpS}:V1 A0 96 f=f Mu:=rfl
theorem sU:A0.ti 96=some Mu:=rfl
theorem ty96_z:Mu.size=4:=rfl
theorem ty96_0:Mu.zero=.agg [(.str []),(.int .i64 0),(.int .i64 0),(.int .i64 0)]:=rfl
theorem fq96_1 (x:AV):I8 A0 Mu 1 x=B4 x 1:=rfl
theorem fq96_2 (x:AV):I8 A0 Mu 2 x=B4 x 2:=rfl
theorem pt96 (cs:List AV) (o:Nat):partOf Mu cs o=if o + 4≤cs.length then some (.agg ((cs.drop o).take 4)) else none:=Q9 rfl cs o
theorem ont116 {f:TI->OpS}:V1 A0 116 f=f Fk:=rfl
theorem ty116_z:Fk.size=7:=rfl
theorem ty116_0:Fk.zero=.agg [.nilsl,.nilsl,(.str []),(.int .i64 0),(.int .i64 0),.nilsl,.nilsl]:=rfl
def jC (i:Nat):Option (Nat × Nat):=A4 (Pj [(25,0),(31,2)] i) fun f=>onTI A0 f.1 none fun g=>some (f.2,g.size)
theorem bd116 (ps:List (Nat × AV)):P0 A0 Fk ps=uN (N9 jC ps Fk.zero.cells):=rfl
theorem pl116_0:jC 0=some (0,2):=rfl
theorem fq116_0 (x:AV):I8 A0 Fk 0 x=B4 x 0:=rfl
theorem pl116_1:jC 1=some (2,5):=rfl
theorem fq116_1 (x:AV):I8 A0 Fk 1 x=B4 x 2:=rfl
theorem pt116 (cs:List AV) (o:Nat):partOf Fk cs o=if o + 7≤cs.length then some (.agg ((cs.drop o).take 7)) else none:=Q9 rfl cs o
theorem ont161 {f:TI->OpS}:V1 A0 161 f=f cF:=rfl
theorem ty161_d:cF.desc=.slice 39:=rfl
theorem el161:elemOfT A0 (.slice 39)=some Bd:=rfl
theorem ln161 (l:List TypeId) (x:AV) (r:List AV) (K:PK):I6 A0 .len (161 :: l) (x :: r) K=oT x K:=rfl
theorem ix161 (x:AV) (i:AV):Gf A0 cF x i=Yb Bd x i:=rfl
theorem ont225 {f:TI->OpS}:V1 A0 225 f=f jA:=rfl
theorem ty225_d:jA.desc=.int .i8:=rfl
end
end Go.Proofs.AmEnv
set_option maxRecDepth 100000
namespace Go.Proofs.AmEnv
open Go Go.AM
def XQ:=And.intro @e_seq (And.intro @seqP_normal (And.intro @seqP_exit (And.intro @seqP_ret (And.intro @e_skip (And.intro @e_exit (And.intro @e_ret (And.intro @e_reg (And.intro @e_regD (And.intro @e_pre (And.intro @e_cond (And.intro @condP_true (And.intro @condP_false (And.intro @e_block (And.intro @blkP_normal (And.intro @blkP_exit (And.intro @blkP_ret (And.intro @e_post (And.intro @postP_normal (And.intro @postP_exit (And.intro @postP_ret (And.intro @callK_val (And.intro @doP_val (And.intro @doP_call (And.intro @e_nil (And.intro @e_op (And.intro @e_opS (And.intro @e_opY (And.intro @callD_val (And.intro @doD_val (And.intro @doD_call (And.intro @callQ_val (And.intro @doQ_call (And.intro @e_nilD (And.intro @d_op (And.intro @d_opQ (And.intro @d_opS (And.intro @d_opY (And.intro @d_opYQ (And.intro @bodyP_ret (And.intro @bodyP_norm (And.intro @lk_hit (And.intro @lk_cons (And.intro @st_some (And.intro @st_none (And.intro @ov_tmp (And.intro @ov_int (And.intro @ov_bool (And.intro @ov_str (And.intro @ov_nsl (And.intro @ov_func (And.intro @ol_nil (And.intro @ol_cons (And.intro @oq_nil (And.intro @oq_cons (And.intro @oo_none (And.intro @oo_some (And.intro @en_nil (And.intro @en_cons (And.intro @one_1 (And.intro @one_0 (And.intro @ofV_some (And.intro @ofO_some (And.intro @pr_move (And.intro @pr_assign (And.intro @pr_pick (And.intro @pick_true (And.intro @pick_false (And.intro @pr_alloc (And.intro @pr_box (And.intro @pr_build (And.intro @pr_buildSl (And.intro @pr_load (And.intro @pr_store (And.intro @pr_nil (And.intro @pr_bin (And.intro @pr_un (And.intro @pr_conv (And.intro @pr_fn (And.intro @pr_slice (And.intro @pr_fa (And.intro @pr_ia (And.intro @pr_bui (And.intro @pr_call (And.intro @pr_callv (And.intro @callP_fn (And.intro @bp_add (And.intro @bp_sub (And.intro @bp_mul (And.intro @bp_eql (And.intro @bp_neq (And.intro @bp_lss (And.intro @bp_leq (And.intro @bp_gtr (And.intro @bp_geq (And.intro @bp_eqlS (And.intro @bp_neqS (And.intro @wt_true (And.intro @wt_false (And.intro @wt_skip (And.intro @ln_fsl (And.intro @ln_msl (And.intro @ix_fsl (And.intro @ix_msl (And.intro @ld_f (And.intro @ld_p (And.intro @ldR_some (And.intro @ldE_some (And.intro @tb_nil (And.intro @tb_eq (And.intro @tbE_row (And.intro @te_eq (And.intro @teE_flat (And.intro @teE_row (And.intro @te_fsl (And.intro @ap_eq (And.intro @ap1_some (And.intro @ap2_some (And.intro @cl_int (And.intro @cl_bool (And.intro @cl_str (And.intro @cl_own (And.intro @cl_msl (And.intro @ag_int (And.intro @ag_agg (And.intro @cl_nsl (And.intro @ce_int (And.intro @ce_bool (And.intro @ce_str (And.intro @ce_agg (And.intro @ce_nsl (And.intro @ce_msl (And.intro @ce_own (And.intro @fl_nil (And.intro @fl_cons (And.intro @ro6 (And.intro @rwE_row (And.intro @rwE_sub (And.intro @rwS_some (And.intro @rwC_some (And.intro @rwD_some (And.intro @ow_own (And.intro @rt_eq (And.intro @rtE_row (And.intro @rtE_sub (And.intro @ch_eq (And.intro @chE_row (And.intro @chE_sub (And.intro @kp_eq (And.intro @kg_nil (And.intro @kg_row (And.intro @kg_dead (And.intro @kg_sub (And.intro @mf_nil (And.intro @mf_cons (And.intro @mo_nil (And.intro @mo_cons (And.intro @mp_1 (And.intro @mp_2 (And.intro @mk1_eq (And.intro @mk2_eq (And.intro @sm_eq (And.intro @smE_row (And.intro @smE_row1 (And.intro @smE_sub (And.intro @mi_eq (And.intro @rs_nil (And.intro @rs_cons (And.intro @rg_0 (And.intro @rg_1 (And.intro @rg_2 (And.intro @rp_nil (And.intro @rp_cons (And.intro @po_cons (And.intro @rv_int (And.intro @rv_bool (And.intro @rv_str (And.intro @rv_agg (And.intro @rv_fsl (And.intro @rv_msl (And.intro @rv_ptr (And.intro @rv_nsl (And.intro @rv_fn (And.intro @rl_nil (And.intro @rl_cons (And.intro @rnM_some (And.intro @rnP_some (And.intro @et_eq (And.intro @enE_some (And.intro @rp_row (And.intro @rp_row1 (And.intro @rp_sub (And.intro @rnS_some (And.intro @rf_int (And.intro @rf_bool (And.intro @rf_str (And.intro @rf_agg (And.intro @rf_fsl (And.intro @rf_msl (And.intro @rf_ptr (And.intro @rf_nsl (And.intro @rf_fn (And.intro @rfl_nil (And.intro @rfl_cons (And.intro @bk_nil (And.intro @bk_cons (And.intro @bv_eq (And.intro @bs_nil (And.intro @bs_cons (And.intro @bc_msl (And.intro @bc_int (And.intro @bc_str (And.intro @lv_agg (And.intro @lv_msl (And.intro @lv_int (And.intro @lv_bool (And.intro @lv_str (And.intro @lv_own (And.intro @lv_nsl (And.intro @hd_cons (And.intro @os_nil (And.intro @os_cons (And.intro @ot_nil (And.intro @ot_own (And.intro @ot_int (And.intro @ot_bool (And.intro @ot_str (And.intro @va_nil (And.intro @va_cons (And.intro @co_some (And.intro @vv_int (And.intro @vv_bool (And.intro @wv_int (And.intro @wv_str (And.intro @agO_some (And.intro @vv_agg (And.intro @vl_nil (And.intro @vl_cons (And.intro @fsO_some (And.intro @vv_msl (And.intro @wv_msl (And.intro @vmE_some (And.intro @fz_nil (And.intro @fz_cons (And.intro @fz_int (And.intro @fz_str (And.intro @fz_agg (And.intro @fz_own (And.intro @nf_int (And.intro @nf_bool (And.intro @nf_str (And.intro @nf_agg (And.intro @nf_own (And.intro @nfl_nil (And.intro @nfl_cons (And.intro @or_nil (And.intro @or_cons (And.intro @on_int (And.intro @on_bool (And.intro @on_str (And.intro @ok_int (And.intro @ok_bool (And.intro @ok_str (And.intro @ok_msl (And.intro @ok_nsl (And.intro @nr_eq (And.intro @bx_eq (And.intro @wc_agg (And.intro @wc_int (And.intro @wc_bool (And.intro @wc_nsl (And.intro @ra_eq (And.intro @raE_0 (And.intro @raE_1 (And.intro @raE_sub (And.intro @sr_eq (And.intro @srE_row (And.intro @srE_sub (And.intro @srS_some (And.intro @srC_some (And.intro @srD_some (And.intro @pc_agg (And.intro @spR_some (And.intro @spE_some (And.intro @spB_true (And.intro @spB_false (And.intro @spC_true (And.intro @spC_false (And.intro @spO_some (And.intro @spQ_some (And.intro @spS_some (And.intro @rl_1 (And.intro @sc_nil (And.intro @sc_clo (And.intro @sc_msl (And.intro @scM_row (And.intro @scK_some (And.intro @rsT_some (And.intro @rsC_val (And.intro @rsO_some (And.intro @rs_0 (And.intro @rs_tmp (And.intro @rs_cell (And.intro @ok_fslN (And.intro @cl_fslN (And.intro @ce_fslN (And.intro @rf_fslN (And.intro @rv_fslN (And.intro @fz_fslN (And.intro @vv_fslN (And.intro @wv_fslN (And.intro @ln_fslN (And.intro @ix_fslN (And.intro @lv_fslN (And.intro @te_fslN (And.intro @pf_f (And.intro @pf_p (And.intro @ldW_eq (And.intro @oc_nil (And.intro @oc_own (And.intro @oc_int (And.intro @oc_bool (And.intro @oc_str (And.intro @oc_fslN (And.intro @oc_msl (And.intro @oc_nsl (And.intro @bs_eq (And.intro @bsE_some (And.intro @pl_nil (And.intro @pl_cons (And.intro @plE_some (And.intro @rl_0 (And.intro @rl_2 (And.intro @rl_5 (And.intro @rl_7 (And.intro @rl_8 (And.intro @tk_all (And.intro @fp_ok (And.intro @fbK_some (And.intro @fb_nil (And.intro @fbP_some (And.intro @fb_cons (And.intro @agM_some (And.intro @inpK_val (And.intro @wp_eq (And.intro @wpE_some (And.intro @ap2_nil (And.intro @ro5 (And.intro @ro4 (And.intro @fl_none (And.intro @Option.map_some.{0,0} (And.intro @List.take_succ_cons.{0} (And.intro @List.take_zero.{0} (And.intro @List.drop_succ_cons.{0} (And.intro @List.drop_zero.{0} (And.intro @Option.map_none.{0,0} (And.intro @List.all_cons.{0} (And.intro @List.all_nil.{0} (And.intro @List.isEmpty_cons.{0} (And.intro @List.isEmpty_nil.{0} (And.intro @List.mem_cons.{0} (And.intro @List.not_mem_nil.{0} (And.intro @or_false (And.intro @false_or (And.intro @or_true (And.intro @true_or (And.intro @not_false_eq_true (And.intro @not_true_eq_false (And.intro @and_true (And.intro @true_and (And.intro @and_self (And.intro @Bool.and_self (And.intro @Bool.and_true (And.intro @Bool.true_and (And.intro @List.set_cons_zero.{0} (And.intro @List.set_cons_succ.{0} (And.intro @List.flatMap_cons.{0,0} (And.intro @List.flatMap_nil.{0,0} (And.intro @List.filter_cons.{0} (And.intro @List.filter_nil.{0} (And.intro @eq_self.{1} (And.intro @List.nodup_cons.{0} (And.intro @List.nodup_nil.{0} (And.intro @Option.isSome_some.{0} (And.intro @Option.isSome_none.{0} (And.intro @Bool.or_true (And.intro @Bool.or_false (And.intro @Bool.true_or (And.intro @Bool.false_or (And.intro @Nat.le_refl (And.intro @Nat.lt_irrefl (And.intro @Nat.not_lt_zero (And.intro @Nat.zero_le (And.intro @decide_eq_true_eq (And.intro @ne_eq.{1} (And.intro @List.cons_append.{0} (And.intro @List.nil_append.{0} (And.intro @List.append_nil.{0} (And.intro @List.length_cons.{0} (And.intro @List.length_nil.{0} (And.intro @List.getElem?_cons_zero.{0} (And.intro @List.getElem?_cons_succ.{0} (And.intro @List.getElem?_nil.{0} (And.intro @Nat.add_zero (And.intro @Bool.not_true (And.intro @Bool.not_false (And.intro @decide_true (And.intro @decide_false (And.intro @Option.some.injEq.{0} (And.intro @Bool.true_eq_false (And.intro @Bool.false_eq_true (And.intro @u_not (And.intro @Option.isNone_some.{0} (And.intro @Option.isNone_none.{0} (And.intro @Bool.and_false (And.intro @Bool.false_and (And.intro @cond_false.{1} (And.intro @cond_true.{1} (And.intro @ont3 (And.intro @ty3_z (And.intro @ty3_b (And.intro @ty3_d (And.intro @ft3 (And.intro @ty3_0 (And.intro @pt3 (And.intro @ont4 (And.intro @ty4_z (And.intro @ty4_0 (And.intro @pt4 (And.intro @ont9 (And.intro @pt9 (And.intro @ont21 (And.intro @ty21_d (And.intro @ont22 (And.intro @pt22 (And.intro @ln22 (And.intro @ix22 (And.intro @ont23 (And.intro @pt23 (And.intro @ln23 (And.intro @ix23 (And.intro @ont25 (And.intro @ty25_z (And.intro @fq25_0 (And.intro @fq25_1 (And.intro @pt25 (And.intro @ont28 (And.intro @ty28_z (And.intro @ty28_d (And.intro @ty28_0 (And.intro @pt28 (And.intro @el28 (And.intro @ln28 (And.intro @ap28 (And.intro @ix28 (And.intro @ont29 (And.intro @ty29_z (And.intro @ty29_d (And.intro @pt29 (And.intro @el29 (And.intro @ln29 (And.intro @ap29 (And.intro @ix29 (And.intro @ont31 (And.intro @ty31_z (And.intro @ty31_0 (And.intro @bd31 (And.intro @pl31_0 (And.intro @fq31_0 (And.intro @pl31_1 (And.intro @fq31_1 (And.intro @fq31_2 (And.intro @pl31_3 (And.intro @fq31_3 (And.intro @fq31_4 (And.intro @pt31 (And.intro @ont37 (And.intro @ty37_z (And.intro @ty37_d (And.intro @pt37 (And.intro @el37 (And.intro @ln37 (And.intro @ap37 (And.intro @ix37 (And.intro @ont39 (And.intro @ty39_z (And.intro @ty39_0 (And.intro @bd39 (And.intro @pl39_0 (And.intro @fq39_0 (And.intro @pl39_1 (And.intro @fq39_1 (And.intro @pl39_2 (And.intro @fq39_2 (And.intro @pl39_3 (And.intro @fq39_3 (And.intro @pt39 (And.intro @ont41 (And.intro @ty41_z (And.intro @ty41_b (And.intro @ft41 (And.intro @ty41_0 (And.intro @bd41 (And.intro @pl41_0 (And.intro @fq41_0 (And.intro @pl41_1 (And.intro @fq41_1 (And.intro @pt41 (And.intro @ont77 (And.intro @ty77_z (And.intro @ty77_b (And.intro @ft77 (And.intro @ty77_0 (And.intro @bd77 (And.intro @pl77_0 (And.intro @fq77_0 (And.intro @fq77_1 (And.intro @fq77_2 (And.intro @fq77_3 (And.intro @fq77_4 (And.intro @fq77_5 (And.intro @fq77_6 (And.intro @fq77_7 (And.intro @pt77 (And.intro @ont96 (And.intro @ty96_z (And.intro @ty96_0 (And.intro @fq96_1 (And.intro @fq96_2 (And.intro @pt96 (And.intro @ont116 (And.intro @ty116_z (And.intro @ty116_0 (And.intro @bd116 (And.intro @pl116_0 (And.intro @fq116_0 (And.intro @pl116_1 (And.intro @fq116_1 (And.intro @pt116 (And.intro @ont161 (And.intro @ty161_d (And.intro @el161 (And.intro @ln161 (And.intro @ix161 (And.intro @ont225 (And.intro @ty225_d (And.intro @xo_eq (And.intro @xm_eq (And.intro @xg_eq (And.intro @tm_eq (And.intro @ki_eq (And.intro @cl_eq (And.intro @xa_eq (And.intro @xl_eq (And.intro @xf_eq (And.intro @xi_eq (And.intro @xn_eq (And.intro @xs_eq (And.intro @xb_eq (And.intro @gl_eq (And.intro @gf_eq (@R_eq)))))))))))))))))))))))))))))))))))))))))))))))))))))))))))))))))))))))))))))))))))))))))))))))))))))))))))))))))))))))))))))))))))))))))))))))))))))))))))))))))))))))))))))))))))))))))))))))))))))))))))))))))))))))))))))))))))))))))))))))))))))))))))))))))))))))))))))))))))))))))))))))))))))))))))))))))))))))))))))))))))))))))))))))))))))))))))))))))))))))))))))))))))))))))))))))))))))))))))))))))))))))))))))))))))))))))))))))))))))))))))))))))))))))))))))))))))))))))))))))))))))))))))))))))))))))))))))))))))))))))))))))))))))))))))))))))))))))))))))))))
def XP:=And.intro XQ (And.intro @sp_eq Nat.zero_add)
end Go.Proofs.AmEnv
