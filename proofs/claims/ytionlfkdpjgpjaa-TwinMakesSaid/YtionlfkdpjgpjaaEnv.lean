/- The tables of this program's types and functions, facts on them, and the rules. Conditions: none. -/
import Derived.Test.YtionlfkdpjgpjaaCode
set_option linter.unusedVariables false
set_option linter.unusedSimpArgs false
set_option linter.unusedSectionVars false
set_option linter.defProp false
set_option maxRecDepth 100000
namespace Go.Proofs.AmEnv
open Go.AM
noncomputable def aH:TI:=⟨.int .i64,1,8,.int .i64 0⟩
noncomputable def AB:TI:=⟨.bool,1,1,.bool false⟩
noncomputable def AC:TI:=⟨.string,1,16,.str []⟩
noncomputable def uR:TI:=⟨.int .i32,1,4,.int .i32 0⟩
noncomputable def gL:TI:=⟨.slice 96,1,24,.nilsl⟩
noncomputable def gM:TI:=⟨.slice 31,1,24,.nilsl⟩
noncomputable def Yh:TI:=⟨.struct [(22,0),(23,1)] false,2,48,.agg [.nilsl,.nilsl]⟩
noncomputable def Vf:TI:=⟨.slice 3,1,24,.nilsl⟩
noncomputable def Yi:TI:=⟨.slice 41,1,24,.nilsl⟩
noncomputable def Bi:TI:=⟨.struct [(9,0),(3,1),(3,2),(28,3),(29,4)] false,5,80,.agg [(.str []),(.int .i64 0),(.int .i64 0),.nilsl,.nilsl]⟩
noncomputable def JQ:TI:=⟨.func,1,8,.nilfn⟩
noncomputable def JR:TI:=⟨.func,1,8,.nilfn⟩
noncomputable def Yj:TI:=⟨.slice 77,1,24,.nilsl⟩
noncomputable def JS:TI:=⟨.struct [(3,0),(3,1),(3,2),(3,3)] true,4,32,.agg [(.int .i64 0),(.int .i64 0),(.int .i64 0),(.int .i64 0)]⟩
noncomputable def Bj:TI:=⟨.struct [(3,0),(3,1),(3,2),(3,3)] true,4,32,.agg [(.int .i64 0),(.int .i64 0),(.int .i64 0),(.int .i64 0)]⟩
noncomputable def n9:TI:=⟨.struct [(37,0),(39,1)] false,5,56,.agg [.nilsl,(.int .i64 0),(.int .i64 0),(.int .i64 0),(.int .i64 0)]⟩
noncomputable def JT:TI:=⟨.func,1,8,.nilfn⟩
noncomputable def JU:TI:=⟨.func,1,8,.nilfn⟩
noncomputable def JV:TI:=⟨.func,1,8,.nilfn⟩
noncomputable def JW:TI:=⟨.func,1,8,.nilfn⟩
noncomputable def JX:TI:=⟨.slice 4,1,24,.nilsl⟩
noncomputable def JY:TI:=⟨.int .i64,1,8,.int .i64 0⟩
noncomputable def JZ:TI:=⟨.func,1,8,.nilfn⟩
noncomputable def KA:TI:=⟨.slice 66,1,24,.nilsl⟩
noncomputable def KB:TI:=⟨.struct [(28,0),(54,1)] false,2,48,.agg [.nilsl,.nilsl]⟩
noncomputable def X6:TI:=⟨.struct [(3,0),(3,1),(3,2),(3,3),(3,4),(3,5),(9,6),(28,7)] false,8,88,.agg [(.int .i64 0),(.int .i64 0),(.int .i64 0),(.int .i64 0),(.int .i64 0),(.int .i64 0),(.str []),.nilsl]⟩
noncomputable def KC:TI:=⟨.func,1,8,.nilfn⟩
noncomputable def KD:TI:=⟨.func,1,8,.nilfn⟩
noncomputable def Ny:TI:=⟨.struct [(9,0),(3,1),(3,2),(3,3)] true,4,40,.agg [(.str []),(.int .i64 0),(.int .i64 0),(.int .i64 0)]⟩
noncomputable def KE:TI:=⟨.func,1,8,.nilfn⟩
noncomputable def AD:TI:=⟨.func,1,8,.nilfn⟩
noncomputable def AE:TI:=⟨.func,1,8,.nilfn⟩
noncomputable def AF:TI:=⟨.func,1,8,.nilfn⟩
noncomputable def AG:TI:=⟨.func,1,8,.nilfn⟩
noncomputable def Gb:TI:=⟨.struct [(25,0),(31,2)] false,7,128,.agg [.nilsl,.nilsl,(.str []),(.int .i64 0),(.int .i64 0),.nilsl,.nilsl]⟩
noncomputable def AH:TI:=⟨.map 3 188,1,8,.nilmap⟩
noncomputable def AI:TI:=⟨.struct [(31,0),(122,5)] false,6,88,.agg [(.str []),(.int .i64 0),(.int .i64 0),.nilsl,.nilsl,.nilmap]⟩
noncomputable def eD:TI:=⟨.slice 39,1,24,.nilsl⟩
noncomputable def AJ:TI:=⟨.ptr 3,1,8,.nilptr⟩
noncomputable def AK:TI:=⟨.func,1,8,.nilfn⟩
noncomputable def AL:TI:=⟨.func,1,8,.nilfn⟩
noncomputable def AN:TI:=⟨.func,1,8,.nilfn⟩
noncomputable def kV:TI:=⟨.int .i8,1,1,.int .i8 0⟩
noncomputable def ti (t:Nat):Option TI :=
 bif Nat.blt t 55 then (bif Nat.blt t 32 then (bif Nat.blt t 23 then (bif Nat.blt t 9 then (bif Nat.blt t 4 then (bif Nat.beq t 3 then some aH else none) else (bif Nat.beq t 4 then some AB else none)) else (bif Nat.blt t 21 then (bif Nat.beq t 9 then some AC else none) else (bif Nat.blt t 22 then (bif Nat.beq t 21 then some uR else none) else (bif Nat.beq t 22 then some gL else none)))) else (bif Nat.blt t 28 then (bif Nat.blt t 25 then (bif Nat.beq t 23 then some gM else none) else (bif Nat.beq t 25 then some Yh else none)) else (bif Nat.blt t 29 then (bif Nat.beq t 28 then some Vf else none) else (bif Nat.blt t 31 then (bif Nat.beq t 29 then some Yi else none) else (bif Nat.beq t 31 then some Bi else none))))) else (bif Nat.blt t 41 then (bif Nat.blt t 37 then (bif Nat.blt t 33 then (bif Nat.beq t 32 then some JQ else none) else (bif Nat.beq t 33 then some JR else none)) else (bif Nat.blt t 38 then (bif Nat.beq t 37 then some Yj else none) else (bif Nat.blt t 39 then (bif Nat.beq t 38 then some JS else none) else (bif Nat.beq t 39 then some Bj else none)))) else (bif Nat.blt t 45 then (bif Nat.blt t 42 then (bif Nat.beq t 41 then some n9 else none) else (bif Nat.blt t 43 then (bif Nat.beq t 42 then some JT else none) else (bif Nat.beq t 43 then some JU else none))) else (bif Nat.blt t 47 then (bif Nat.beq t 45 then some JV else none) else (bif Nat.blt t 54 then (bif Nat.beq t 47 then some JW else none) else (bif Nat.beq t 54 then some JX else none)))))) else (bif Nat.blt t 110 then (bif Nat.blt t 82 then (bif Nat.blt t 62 then (bif Nat.blt t 61 then (bif Nat.beq t 55 then some JY else none) else (bif Nat.beq t 61 then some JZ else none)) else (bif Nat.blt t 66 then (bif Nat.beq t 62 then some KA else none) else (bif Nat.blt t 77 then (bif Nat.beq t 66 then some KB else none) else (bif Nat.beq t 77 then some X6 else none)))) else (bif Nat.blt t 97 then (bif Nat.blt t 94 then (bif Nat.beq t 82 then some KC else none) else (bif Nat.blt t 96 then (bif Nat.beq t 94 then some KD else none) else (bif Nat.beq t 96 then some Ny else none))) else (bif Nat.blt t 105 then (bif Nat.beq t 97 then some KE else none) else (bif Nat.blt t 109 then (bif Nat.beq t 105 then some AD else none) else (bif Nat.beq t 109 then some AE else none))))) else (bif Nat.blt t 161 then (bif Nat.blt t 116 then (bif Nat.blt t 113 then (bif Nat.beq t 110 then some AF else none) else (bif Nat.beq t 113 then some AG else none)) else (bif Nat.blt t 122 then (bif Nat.beq t 116 then some Gb else none) else (bif Nat.blt t 124 then (bif Nat.beq t 122 then some AH else none) else (bif Nat.beq t 124 then some AI else none)))) else (bif Nat.blt t 220 then (bif Nat.blt t 163 then (bif Nat.beq t 161 then some eD else none) else (bif Nat.blt t 170 then (bif Nat.beq t 163 then some AJ else none) else (bif Nat.beq t 170 then some AK else none))) else (bif Nat.blt t 223 then (bif Nat.beq t 220 then some AL else none) else (bif Nat.blt t 225 then (bif Nat.beq t 223 then some AN else none) else (bif Nat.beq t 225 then some kV else none))))))
noncomputable def fn (f:Nat):Option FI :=
 bif Nat.blt f 152 then (bif Nat.blt f 67 then (bif Nat.blt f 21 then (bif Nat.blt f 17 then (bif Nat.blt f 15 then (bif Nat.blt f 14 then (bif Nat.beq f 3 then some RN else none) else (bif Nat.beq f 14 then some IP else none)) else (bif Nat.blt f 16 then (bif Nat.beq f 15 then some IQ else none) else (bif Nat.beq f 16 then some IR else none))) else (bif Nat.blt f 19 then (bif Nat.blt f 18 then (bif Nat.beq f 17 then some IS else none) else (bif Nat.beq f 18 then some IT else none)) else (bif Nat.blt f 20 then (bif Nat.beq f 19 then some IU else none) else (bif Nat.beq f 20 then some IV else none)))) else (bif Nat.blt f 55 then (bif Nat.blt f 39 then (bif Nat.blt f 23 then (bif Nat.beq f 21 then some IW else none) else (bif Nat.beq f 23 then some IX else none)) else (bif Nat.blt f 40 then (bif Nat.beq f 39 then some IY else none) else (bif Nat.beq f 40 then some IZ else none))) else (bif Nat.blt f 65 then (bif Nat.blt f 62 then (bif Nat.beq f 55 then some JA else none) else (bif Nat.beq f 62 then some JB else none)) else (bif Nat.blt f 66 then (bif Nat.beq f 65 then some JC else none) else (bif Nat.beq f 66 then some JD else none))))) else (bif Nat.blt f 75 then (bif Nat.blt f 71 then (bif Nat.blt f 69 then (bif Nat.blt f 68 then (bif Nat.beq f 67 then some JE else none) else (bif Nat.beq f 68 then some JF else none)) else (bif Nat.blt f 70 then (bif Nat.beq f 69 then some JG else none) else (bif Nat.beq f 70 then some JH else none))) else (bif Nat.blt f 73 then (bif Nat.blt f 72 then (bif Nat.beq f 71 then some JI else none) else (bif Nat.beq f 72 then some JJ else none)) else (bif Nat.blt f 74 then (bif Nat.beq f 73 then some JK else none) else (bif Nat.beq f 74 then some JL else none)))) else (bif Nat.blt f 108 then (bif Nat.blt f 77 then (bif Nat.blt f 76 then (bif Nat.beq f 75 then some JM else none) else (bif Nat.beq f 76 then some JN else none)) else (bif Nat.blt f 78 then (bif Nat.beq f 77 then some JO else none) else (bif Nat.beq f 78 then some JP else none))) else (bif Nat.blt f 112 then (bif Nat.blt f 111 then (bif Nat.beq f 108 then some yP else none) else (bif Nat.beq f 111 then some yQ else none)) else (bif Nat.blt f 113 then (bif Nat.beq f 112 then some yR else none) else (bif Nat.blt f 145 then (bif Nat.beq f 113 then some yS else none) else (bif Nat.beq f 145 then some yT else none))))))) else (bif Nat.blt f 217 then (bif Nat.blt f 170 then (bif Nat.blt f 159 then (bif Nat.blt f 157 then (bif Nat.blt f 155 then (bif Nat.beq f 152 then some yU else none) else (bif Nat.beq f 155 then some yV else none)) else (bif Nat.blt f 158 then (bif Nat.beq f 157 then some yW else none) else (bif Nat.beq f 158 then some yX else none))) else (bif Nat.blt f 161 then (bif Nat.blt f 160 then (bif Nat.beq f 159 then some yY else none) else (bif Nat.beq f 160 then some yZ else none)) else (bif Nat.blt f 162 then (bif Nat.beq f 161 then some zA else none) else (bif Nat.beq f 162 then some zB else none)))) else (bif Nat.blt f 177 then (bif Nat.blt f 175 then (bif Nat.blt f 174 then (bif Nat.beq f 170 then some zC else none) else (bif Nat.beq f 174 then some zD else none)) else (bif Nat.blt f 176 then (bif Nat.beq f 175 then some zE else none) else (bif Nat.beq f 176 then some zF else none))) else (bif Nat.blt f 182 then (bif Nat.blt f 178 then (bif Nat.beq f 177 then some zG else none) else (bif Nat.beq f 178 then some zH else none)) else (bif Nat.blt f 216 then (bif Nat.beq f 182 then some zI else none) else (bif Nat.beq f 216 then some zJ else none))))) else (bif Nat.blt f 241 then (bif Nat.blt f 222 then (bif Nat.blt f 219 then (bif Nat.blt f 218 then (bif Nat.beq f 217 then some zK else none) else (bif Nat.beq f 218 then some zL else none)) else (bif Nat.blt f 221 then (bif Nat.beq f 219 then some zM else none) else (bif Nat.beq f 221 then some zN else none))) else (bif Nat.blt f 224 then (bif Nat.blt f 223 then (bif Nat.beq f 222 then some zO else none) else (bif Nat.beq f 223 then some zP else none)) else (bif Nat.blt f 225 then (bif Nat.beq f 224 then some zQ else none) else (bif Nat.beq f 225 then some zR else none)))) else (bif Nat.blt f 248 then (bif Nat.blt f 246 then (bif Nat.blt f 242 then (bif Nat.beq f 241 then some zS else none) else (bif Nat.beq f 242 then some zT else none)) else (bif Nat.blt f 247 then (bif Nat.beq f 246 then some zU else none) else (bif Nat.beq f 247 then some zV else none))) else (bif Nat.blt f 250 then (bif Nat.blt f 249 then (bif Nat.beq f 248 then some zW else none) else (bif Nat.beq f 249 then some zX else none)) else (bif Nat.blt f 262 then (bif Nat.beq f 250 then some zY else none) else (bif Nat.blt f 264 then (bif Nat.beq f 262 then some zZ else none) else (bif Nat.beq f 264 then some AA else none)))))))
noncomputable def A0:Env:=⟨ti,fn,fun _=>none,fun f=>Nat.beq f 245,some 0,fun _=>false,fun _=>none,fun _ _=>false⟩
noncomputable section
def A2 (f:Nat):Option PFn:=bif Nat.blt f 152 then (bif Nat.blt f 67 then (bif Nat.blt f 21 then (bif Nat.blt f 17 then (bif Nat.blt f 15 then (bif Nat.blt f 14 then (bif Nat.beq f 3 then some NK else none) else (bif Nat.beq f 14 then some xO else none)) else (bif Nat.blt f 16 then (bif Nat.beq f 15 then some xP else none) else (bif Nat.beq f 16 then some xQ else none))) else (bif Nat.blt f 19 then (bif Nat.blt f 18 then (bif Nat.beq f 17 then some xR else none) else (bif Nat.beq f 18 then some xS else none)) else (bif Nat.blt f 20 then (bif Nat.beq f 19 then some xT else none) else (bif Nat.beq f 20 then some xU else none)))) else (bif Nat.blt f 55 then (bif Nat.blt f 39 then (bif Nat.blt f 23 then (bif Nat.beq f 21 then some xV else none) else (bif Nat.beq f 23 then some xW else none)) else (bif Nat.blt f 40 then (bif Nat.beq f 39 then some xX else none) else (bif Nat.beq f 40 then some xY else none))) else (bif Nat.blt f 65 then (bif Nat.blt f 62 then (bif Nat.beq f 55 then some xZ else none) else (bif Nat.beq f 62 then some yA else none)) else (bif Nat.blt f 66 then (bif Nat.beq f 65 then some yB else none) else (bif Nat.beq f 66 then some yC else none))))) else (bif Nat.blt f 75 then (bif Nat.blt f 71 then (bif Nat.blt f 69 then (bif Nat.blt f 68 then (bif Nat.beq f 67 then some yD else none) else (bif Nat.beq f 68 then some yE else none)) else (bif Nat.blt f 70 then (bif Nat.beq f 69 then some yF else none) else (bif Nat.beq f 70 then some yG else none))) else (bif Nat.blt f 73 then (bif Nat.blt f 72 then (bif Nat.beq f 71 then some yH else none) else (bif Nat.beq f 72 then some yI else none)) else (bif Nat.blt f 74 then (bif Nat.beq f 73 then some yJ else none) else (bif Nat.beq f 74 then some yK else none)))) else (bif Nat.blt f 108 then (bif Nat.blt f 77 then (bif Nat.blt f 76 then (bif Nat.beq f 75 then some yL else none) else (bif Nat.beq f 76 then some yM else none)) else (bif Nat.blt f 78 then (bif Nat.beq f 77 then some yN else none) else (bif Nat.beq f 78 then some yO else none))) else (bif Nat.blt f 112 then (bif Nat.blt f 111 then (bif Nat.beq f 108 then some rY else none) else (bif Nat.beq f 111 then some rZ else none)) else (bif Nat.blt f 113 then (bif Nat.beq f 112 then some sA else none) else (bif Nat.blt f 145 then (bif Nat.beq f 113 then some sB else none) else (bif Nat.beq f 145 then some sC else none))))))) else (bif Nat.blt f 217 then (bif Nat.blt f 170 then (bif Nat.blt f 159 then (bif Nat.blt f 157 then (bif Nat.blt f 155 then (bif Nat.beq f 152 then some sD else none) else (bif Nat.beq f 155 then some sE else none)) else (bif Nat.blt f 158 then (bif Nat.beq f 157 then some sF else none) else (bif Nat.beq f 158 then some sG else none))) else (bif Nat.blt f 161 then (bif Nat.blt f 160 then (bif Nat.beq f 159 then some sH else none) else (bif Nat.beq f 160 then some sI else none)) else (bif Nat.blt f 162 then (bif Nat.beq f 161 then some sJ else none) else (bif Nat.beq f 162 then some sK else none)))) else (bif Nat.blt f 177 then (bif Nat.blt f 175 then (bif Nat.blt f 174 then (bif Nat.beq f 170 then some sL else none) else (bif Nat.beq f 174 then some sM else none)) else (bif Nat.blt f 176 then (bif Nat.beq f 175 then some sN else none) else (bif Nat.beq f 176 then some sO else none))) else (bif Nat.blt f 182 then (bif Nat.blt f 178 then (bif Nat.beq f 177 then some sP else none) else (bif Nat.beq f 178 then some sQ else none)) else (bif Nat.blt f 216 then (bif Nat.beq f 182 then some sR else none) else (bif Nat.beq f 216 then some sS else none))))) else (bif Nat.blt f 241 then (bif Nat.blt f 222 then (bif Nat.blt f 219 then (bif Nat.blt f 218 then (bif Nat.beq f 217 then some sT else none) else (bif Nat.beq f 218 then some sU else none)) else (bif Nat.blt f 221 then (bif Nat.beq f 219 then some sV else none) else (bif Nat.beq f 221 then some sW else none))) else (bif Nat.blt f 224 then (bif Nat.blt f 223 then (bif Nat.beq f 222 then some sX else none) else (bif Nat.beq f 223 then some sY else none)) else (bif Nat.blt f 225 then (bif Nat.beq f 224 then some sZ else none) else (bif Nat.beq f 225 then some tA else none)))) else (bif Nat.blt f 248 then (bif Nat.blt f 246 then (bif Nat.blt f 242 then (bif Nat.beq f 241 then some tB else none) else (bif Nat.beq f 242 then some tC else none)) else (bif Nat.blt f 247 then (bif Nat.beq f 246 then some tD else none) else (bif Nat.beq f 247 then some tE else none))) else (bif Nat.blt f 250 then (bif Nat.blt f 249 then (bif Nat.beq f 248 then some tF else none) else (bif Nat.beq f 249 then some tG else none)) else (bif Nat.blt f 262 then (bif Nat.beq f 250 then some tH else none) else (bif Nat.blt f 264 then (bif Nat.beq f 262 then some tI else none) else (bif Nat.beq f 264 then some tJ else none)))))))
end
end Go.Proofs.AmEnv
set_option maxRecDepth 100000
set_option linter.unusedVariables false
namespace Go.Proofs.AmEnv
open Go Go.AM
noncomputable section
theorem ont3 {f:TI->OpS}:W9 A0 3 f=f aH:=rfl
theorem NL:A0.ti 3=some aH:=rfl
theorem ty3_z:aH.size=1:=rfl
theorem ty3_b:aH.bytes=8:=rfl
theorem ty3_d:aH.desc=.int .i64:=rfl
theorem ft3:flatT aH=true:=rfl
theorem ty3_0:aH.zero=.int .i64 0:=rfl
theorem pt3 (cs:List AV) (o:Nat):partOf aH cs o=cs[o]?:=O0 rfl cs o
theorem ont4 {f:TI->OpS}:W9 A0 4 f=f AB:=rfl
theorem ty4_z:AB.size=1:=rfl
theorem ty4_0:AB.zero=.bool false:=rfl
theorem pt4 (cs:List AV) (o:Nat):partOf AB cs o=cs[o]?:=O0 rfl cs o
theorem ont9 {f:TI->OpS}:W9 A0 9 f=f AC:=rfl
theorem RO:A0.ti 9=some AC:=rfl
theorem pt9 (cs:List AV) (o:Nat):partOf AC cs o=cs[o]?:=O0 rfl cs o
theorem ont21 {f:TI->OpS}:W9 A0 21 f=f uR:=rfl
theorem ty21_d:uR.desc=.int .i32:=rfl
theorem ont22 {f:TI->OpS}:W9 A0 22 f=f gL:=rfl
theorem KF:A0.ti 22=some gL:=rfl
theorem pt22 (cs:List AV) (o:Nat):partOf gL cs o=cs[o]?:=O0 rfl cs o
theorem ln22 (l:List TypeId) (x:AV) (r:List AV) (K:PK):J1 A0 .len (22 :: l) (x :: r) K=qZ x K:=rfl
theorem ix22 (x:AV) (i:AV):Gy A0 gL x i=Ua Ny x i:=rfl
theorem ont23 {f:TI->OpS}:W9 A0 23 f=f gM:=rfl
theorem KG:A0.ti 23=some gM:=rfl
theorem pt23 (cs:List AV) (o:Nat):partOf gM cs o=cs[o]?:=O0 rfl cs o
theorem ln23 (l:List TypeId) (x:AV) (r:List AV) (K:PK):J1 A0 .len (23 :: l) (x :: r) K=qZ x K:=rfl
theorem ix23 (x:AV) (i:AV):Gy A0 gM x i=Ua Bi x i:=rfl
theorem ont25 {f:TI->OpS}:W9 A0 25 f=f Yh:=rfl
theorem KH:A0.ti 25=some Yh:=rfl
theorem ty25_z:Yh.size=2:=rfl
theorem fq25_0 (x:AV):J3 A0 Yh 0 x=B6 x 0:=rfl
theorem fq25_1 (x:AV):J3 A0 Yh 1 x=B6 x 1:=rfl
theorem pt25 (cs:List AV) (o:Nat):partOf Yh cs o=if o + 2≤cs.length then some (.agg ((cs.drop o).take 2)) else none:=R9 rfl cs o
theorem ont28 {f:TI->OpS}:W9 A0 28 f=f Vf:=rfl
theorem KI:A0.ti 28=some Vf:=rfl
theorem ty28_z:Vf.size=1:=rfl
theorem ty28_d:Vf.desc=.slice 3:=rfl
theorem ty28_0:Vf.zero=.nilsl:=rfl
theorem pt28 (cs:List AV) (o:Nat):partOf Vf cs o=cs[o]?:=O0 rfl cs o
theorem el28:elemOfT A0 (.slice 3)=some aH:=rfl
theorem ln28 (l:List TypeId) (x:AV) (r:List AV) (K:PK):J1 A0 .len (28 :: l) (x :: r) K=qZ x K:=rfl
theorem ap28 (l:List TypeId) (s x:AV) (r:List AV) (K:PK):J1 A0 .append (28 :: 28 :: l) (s :: x :: r) K=l5 aH s x K:=rfl
theorem ix28 (x:AV) (i:AV):Gy A0 Vf x i=Ua aH x i:=rfl
theorem ont29 {f:TI->OpS}:W9 A0 29 f=f Yi:=rfl
theorem KJ:A0.ti 29=some Yi:=rfl
theorem ty29_z:Yi.size=1:=rfl
theorem ty29_d:Yi.desc=.slice 41:=rfl
theorem pt29 (cs:List AV) (o:Nat):partOf Yi cs o=cs[o]?:=O0 rfl cs o
theorem el29:elemOfT A0 (.slice 41)=some n9:=rfl
theorem ln29 (l:List TypeId) (x:AV) (r:List AV) (K:PK):J1 A0 .len (29 :: l) (x :: r) K=qZ x K:=rfl
theorem ap29 (l:List TypeId) (s x:AV) (r:List AV) (K:PK):J1 A0 .append (29 :: 29 :: l) (s :: x :: r) K=l5 n9 s x K:=rfl
theorem ix29 (x:AV) (i:AV):Gy A0 Yi x i=Ua n9 x i:=rfl
theorem ont31 {f:TI->OpS}:W9 A0 31 f=f Bi:=rfl
theorem uS:A0.ti 31=some Bi:=rfl
theorem ty31_z:Bi.size=5:=rfl
theorem ty31_0:Bi.zero=.agg [(.str []),(.int .i64 0),(.int .i64 0),.nilsl,.nilsl]:=rfl
def pH (i:Nat):Option (Nat × Nat):=A4 (Qv [(9,0),(3,1),(3,2),(28,3),(29,4)] i) fun f=>onTI A0 f.1 none fun g=>some (f.2,g.size)
theorem bd31 (ps:List (Nat × AV)):Q6 A0 Bi ps=wR (O3 pH ps Bi.zero.cells):=rfl
theorem pl31_0:pH 0=some (0,1):=rfl
theorem fq31_0 (x:AV):J3 A0 Bi 0 x=B6 x 0:=rfl
theorem pl31_1:pH 1=some (1,1):=rfl
theorem fq31_1 (x:AV):J3 A0 Bi 1 x=B6 x 1:=rfl
theorem fq31_2 (x:AV):J3 A0 Bi 2 x=B6 x 2:=rfl
theorem pl31_3:pH 3=some (3,1):=rfl
theorem fq31_3 (x:AV):J3 A0 Bi 3 x=B6 x 3:=rfl
theorem fq31_4 (x:AV):J3 A0 Bi 4 x=B6 x 4:=rfl
theorem pt31 (cs:List AV) (o:Nat):partOf Bi cs o=if o + 5≤cs.length then some (.agg ((cs.drop o).take 5)) else none:=R9 rfl cs o
theorem ont37 {f:TI->OpS}:W9 A0 37 f=f Yj:=rfl
theorem KK:A0.ti 37=some Yj:=rfl
theorem ty37_z:Yj.size=1:=rfl
theorem ty37_d:Yj.desc=.slice 77:=rfl
theorem pt37 (cs:List AV) (o:Nat):partOf Yj cs o=cs[o]?:=O0 rfl cs o
theorem el37:elemOfT A0 (.slice 77)=some X6:=rfl
theorem ln37 (l:List TypeId) (x:AV) (r:List AV) (K:PK):J1 A0 .len (37 :: l) (x :: r) K=qZ x K:=rfl
theorem ap37 (l:List TypeId) (s x:AV) (r:List AV) (K:PK):J1 A0 .append (37 :: 37 :: l) (s :: x :: r) K=l5 X6 s x K:=rfl
theorem ix37 (x:AV) (i:AV):Gy A0 Yj x i=Ua X6 x i:=rfl
theorem ont39 {f:TI->OpS}:W9 A0 39 f=f Bj:=rfl
theorem KL:A0.ti 39=some Bj:=rfl
theorem ty39_z:Bj.size=4:=rfl
theorem ty39_0:Bj.zero=.agg [(.int .i64 0),(.int .i64 0),(.int .i64 0),(.int .i64 0)]:=rfl
def kW (i:Nat):Option (Nat × Nat):=A4 (Qv [(3,0),(3,1),(3,2),(3,3)] i) fun f=>onTI A0 f.1 none fun g=>some (f.2,g.size)
theorem bd39 (ps:List (Nat × AV)):Q6 A0 Bj ps=wR (O3 kW ps Bj.zero.cells):=rfl
theorem pl39_0:kW 0=some (0,1):=rfl
theorem fq39_0 (x:AV):J3 A0 Bj 0 x=B6 x 0:=rfl
theorem pl39_1:kW 1=some (1,1):=rfl
theorem fq39_1 (x:AV):J3 A0 Bj 1 x=B6 x 1:=rfl
theorem pl39_2:kW 2=some (2,1):=rfl
theorem fq39_2 (x:AV):J3 A0 Bj 2 x=B6 x 2:=rfl
theorem pl39_3:kW 3=some (3,1):=rfl
theorem fq39_3 (x:AV):J3 A0 Bj 3 x=B6 x 3:=rfl
theorem pt39 (cs:List AV) (o:Nat):partOf Bj cs o=if o + 4≤cs.length then some (.agg ((cs.drop o).take 4)) else none:=R9 rfl cs o
theorem ont41 {f:TI->OpS}:W9 A0 41 f=f n9:=rfl
theorem uT:A0.ti 41=some n9:=rfl
theorem ty41_z:n9.size=5:=rfl
theorem ty41_b:n9.bytes=56:=rfl
theorem ft41:flatT n9=false:=rfl
theorem ty41_0:n9.zero=.agg [.nilsl,(.int .i64 0),(.int .i64 0),(.int .i64 0),(.int .i64 0)]:=rfl
def uU (i:Nat):Option (Nat × Nat):=A4 (Qv [(37,0),(39,1)] i) fun f=>onTI A0 f.1 none fun g=>some (f.2,g.size)
theorem bd41 (ps:List (Nat × AV)):Q6 A0 n9 ps=wR (O3 uU ps n9.zero.cells):=rfl
theorem pl41_0:uU 0=some (0,1):=rfl
theorem fq41_0 (x:AV):J3 A0 n9 0 x=B6 x 0:=rfl
theorem pl41_1:uU 1=some (1,4):=rfl
theorem fq41_1 (x:AV):J3 A0 n9 1 x=B6 x 1:=rfl
theorem pt41 (cs:List AV) (o:Nat):partOf n9 cs o=if o + 5≤cs.length then some (.agg ((cs.drop o).take 5)) else none:=R9 rfl cs o
theorem ont77 {f:TI->OpS}:W9 A0 77 f=f X6:=rfl
theorem uV:A0.ti 77=some X6:=rfl
theorem ty77_z:X6.size=8:=rfl
theorem ty77_b:X6.bytes=88:=rfl
theorem ft77:flatT X6=false:=rfl
theorem ty77_0:X6.zero=.agg [(.int .i64 0),(.int .i64 0),(.int .i64 0),(.int .i64 0),(.int .i64 0),(.int .i64 0),(.str []),.nilsl]:=rfl
def AO (i:Nat):Option (Nat × Nat):=A4 (Qv [(3,0),(3,1),(3,2),(3,3),(3,4),(3,5),(9,6),(28,7)] i) fun f=>onTI A0 f.1 none fun g=>some (f.2,g.size)
theorem bd77 (ps:List (Nat × AV)):Q6 A0 X6 ps=wR (O3 AO ps X6.zero.cells):=rfl
theorem pl77_0:AO 0=some (0,1):=rfl
theorem fq77_0 (x:AV):J3 A0 X6 0 x=B6 x 0:=rfl
theorem fq77_1 (x:AV):J3 A0 X6 1 x=B6 x 1:=rfl
theorem fq77_2 (x:AV):J3 A0 X6 2 x=B6 x 2:=rfl
theorem fq77_3 (x:AV):J3 A0 X6 3 x=B6 x 3:=rfl
theorem fq77_4 (x:AV):J3 A0 X6 4 x=B6 x 4:=rfl
theorem fq77_5 (x:AV):J3 A0 X6 5 x=B6 x 5:=rfl
theorem fq77_6 (x:AV):J3 A0 X6 6 x=B6 x 6:=rfl
theorem fq77_7 (x:AV):J3 A0 X6 7 x=B6 x 7:=rfl
theorem pt77 (cs:List AV) (o:Nat):partOf X6 cs o=if o + 8≤cs.length then some (.agg ((cs.drop o).take 8)) else none:=R9 rfl cs o
theorem ont96 {f:TI->OpS}:W9 A0 96 f=f Ny:=rfl
theorem uW:A0.ti 96=some Ny:=rfl
theorem ty96_z:Ny.size=4:=rfl
theorem ty96_0:Ny.zero=.agg [(.str []),(.int .i64 0),(.int .i64 0),(.int .i64 0)]:=rfl
theorem fq96_1 (x:AV):J3 A0 Ny 1 x=B6 x 1:=rfl
theorem fq96_2 (x:AV):J3 A0 Ny 2 x=B6 x 2:=rfl
theorem pt96 (cs:List AV) (o:Nat):partOf Ny cs o=if o + 4≤cs.length then some (.agg ((cs.drop o).take 4)) else none:=R9 rfl cs o
theorem ont116 {f:TI->OpS}:W9 A0 116 f=f Gb:=rfl
theorem ty116_z:Gb.size=7:=rfl
theorem ty116_0:Gb.zero=.agg [.nilsl,.nilsl,(.str []),(.int .i64 0),(.int .i64 0),.nilsl,.nilsl]:=rfl
def kX (i:Nat):Option (Nat × Nat):=A4 (Qv [(25,0),(31,2)] i) fun f=>onTI A0 f.1 none fun g=>some (f.2,g.size)
theorem bd116 (ps:List (Nat × AV)):Q6 A0 Gb ps=wR (O3 kX ps Gb.zero.cells):=rfl
theorem pl116_0:kX 0=some (0,2):=rfl
theorem fq116_0 (x:AV):J3 A0 Gb 0 x=B6 x 0:=rfl
theorem pl116_1:kX 1=some (2,5):=rfl
theorem fq116_1 (x:AV):J3 A0 Gb 1 x=B6 x 2:=rfl
theorem pt116 (cs:List AV) (o:Nat):partOf Gb cs o=if o + 7≤cs.length then some (.agg ((cs.drop o).take 7)) else none:=R9 rfl cs o
theorem ont161 {f:TI->OpS}:W9 A0 161 f=f eD:=rfl
theorem ty161_d:eD.desc=.slice 39:=rfl
theorem el161:elemOfT A0 (.slice 39)=some Bj:=rfl
theorem ln161 (l:List TypeId) (x:AV) (r:List AV) (K:PK):J1 A0 .len (161 :: l) (x :: r) K=qZ x K:=rfl
theorem ix161 (x:AV) (i:AV):Gy A0 eD x i=Ua Bj x i:=rfl
theorem ont225 {f:TI->OpS}:W9 A0 225 f=f kV:=rfl
theorem ty225_d:kV.desc=.int .i8:=rfl
end
end Go.Proofs.AmEnv
set_option maxRecDepth 100000
namespace Go.Proofs.AmEnv
open Go Go.AM
def XQ:=And.intro @e_seq (And.intro @seqP_normal (And.intro @seqP_exit (And.intro @seqP_ret (And.intro @e_skip (And.intro @e_exit (And.intro @e_ret (And.intro @e_reg (And.intro @e_regD (And.intro @e_pre (And.intro @e_cond (And.intro @condP_true (And.intro @condP_false (And.intro @e_block (And.intro @blkP_normal (And.intro @blkP_exit (And.intro @blkP_ret (And.intro @e_post (And.intro @postP_normal (And.intro @postP_exit (And.intro @postP_ret (And.intro @callK_val (And.intro @doP_val (And.intro @doP_call (And.intro @e_nil (And.intro @e_op (And.intro @e_opS (And.intro @e_opY (And.intro @callD_val (And.intro @doD_val (And.intro @doD_call (And.intro @callQ_val (And.intro @doQ_call (And.intro @e_nilD (And.intro @d_op (And.intro @d_opQ (And.intro @d_opS (And.intro @d_opY (And.intro @d_opYQ (And.intro @bodyP_ret (And.intro @bodyP_norm (And.intro @lk_hit (And.intro @lk_cons (And.intro @st_some (And.intro @st_none (And.intro @ov_tmp (And.intro @ov_int (And.intro @ov_bool (And.intro @ov_str (And.intro @ov_nsl (And.intro @ov_func (And.intro @ol_nil (And.intro @ol_cons (And.intro @oq_nil (And.intro @oq_cons (And.intro @oo_none (And.intro @oo_some (And.intro @en_nil (And.intro @en_cons (And.intro @one_1 (And.intro @one_0 (And.intro @ofV_some (And.intro @ofO_some (And.intro @pr_move (And.intro @pr_assign (And.intro @pr_pick (And.intro @pick_true (And.intro @pick_false (And.intro @pr_alloc (And.intro @pr_box (And.intro @pr_build (And.intro @pr_buildSl (And.intro @pr_load (And.intro @pr_store (And.intro @pr_nil (And.intro @pr_bin (And.intro @pr_un (And.intro @pr_conv (And.intro @pr_fn (And.intro @pr_slice (And.intro @pr_fa (And.intro @pr_ia (And.intro @pr_bui (And.intro @pr_call (And.intro @pr_callv (And.intro @callP_fn (And.intro @bp_add (And.intro @bp_sub (And.intro @bp_mul (And.intro @bp_eql (And.intro @bp_neq (And.intro @bp_lss (And.intro @bp_leq (And.intro @bp_gtr (And.intro @bp_geq (And.intro @bp_eqlS (And.intro @bp_neqS (And.intro @wt_true (And.intro @wt_false (And.intro @wt_skip (And.intro @ln_fsl (And.intro @ln_msl (And.intro @ix_fsl (And.intro @ix_msl (And.intro @ld_f (And.intro @ld_p (And.intro @ldR_some (And.intro @ldE_some (And.intro @tb_nil (And.intro @tb_eq (And.intro @tbE_row (And.intro @te_eq (And.intro @teE_flat (And.intro @teE_row (And.intro @te_fsl (And.intro @ap_eq (And.intro @ap1_some (And.intro @ap2_some (And.intro @cl_int (And.intro @cl_bool (And.intro @cl_str (And.intro @cl_own (And.intro @cl_msl (And.intro @ag_int (And.intro @ag_agg (And.intro @cl_nsl (And.intro @ce_int (And.intro @ce_bool (And.intro @ce_str (And.intro @ce_agg (And.intro @ce_nsl (And.intro @ce_msl (And.intro @ce_own (And.intro @fl_nil (And.intro @fl_cons (And.intro @ro6 (And.intro @rwE_row (And.intro @rwE_sub (And.intro @rwS_some (And.intro @rwC_some (And.intro @rwD_some (And.intro @ow_own (And.intro @rt_eq (And.intro @rtE_row (And.intro @rtE_sub (And.intro @ch_eq (And.intro @chE_row (And.intro @chE_sub (And.intro @kp_eq (And.intro @kg_nil (And.intro @kg_row (And.intro @kg_dead (And.intro @kg_sub (And.intro @mf_nil (And.intro @mf_cons (And.intro @mo_nil (And.intro @mo_cons (And.intro @mp_1 (And.intro @mp_2 (And.intro @mk1_eq (And.intro @mk2_eq (And.intro @sm_eq (And.intro @smE_row (And.intro @smE_row1 (And.intro @mi_eq (And.intro @rs_nil (And.intro @rs_cons (And.intro @rg_0 (And.intro @rg_1 (And.intro @rg_2 (And.intro @rp_nil (And.intro @rp_cons (And.intro @po_cons (And.intro @rv_int (And.intro @rv_bool (And.intro @rv_str (And.intro @rv_agg (And.intro @rv_fsl (And.intro @rv_msl (And.intro @rv_ptr (And.intro @rv_nsl (And.intro @rv_fn (And.intro @rl_nil (And.intro @rl_cons (And.intro @rnM_some (And.intro @rnP_some (And.intro @et_eq (And.intro @enE_some (And.intro @rp_row (And.intro @rp_row1 (And.intro @rf_int (And.intro @rf_bool (And.intro @rf_str (And.intro @rf_agg (And.intro @rf_fsl (And.intro @rf_msl (And.intro @rf_ptr (And.intro @rf_nsl (And.intro @rf_fn (And.intro @rfl_nil (And.intro @rfl_cons (And.intro @bk_nil (And.intro @bk_cons (And.intro @bv_eq (And.intro @bs_nil (And.intro @bs_cons (And.intro @bc_msl (And.intro @bc_int (And.intro @bc_str (And.intro @lv_agg (And.intro @lv_msl (And.intro @lv_int (And.intro @lv_bool (And.intro @lv_str (And.intro @lv_own (And.intro @lv_nsl (And.intro @hd_cons (And.intro @os_nil (And.intro @os_cons (And.intro @ot_nil (And.intro @ot_own (And.intro @ot_int (And.intro @ot_bool (And.intro @ot_str (And.intro @va_nil (And.intro @va_cons (And.intro @co_some (And.intro @vv_int (And.intro @vv_bool (And.intro @wv_int (And.intro @wv_str (And.intro @agO_some (And.intro @vv_agg (And.intro @vl_nil (And.intro @vl_cons (And.intro @fsO_some (And.intro @vv_msl (And.intro @wv_msl (And.intro @vmE_some (And.intro @fz_nil (And.intro @fz_cons (And.intro @fz_int (And.intro @fz_str (And.intro @fz_agg (And.intro @fz_own (And.intro @nf_int (And.intro @nf_bool (And.intro @nf_str (And.intro @nf_agg (And.intro @nf_own (And.intro @nfl_nil (And.intro @nfl_cons (And.intro @or_nil (And.intro @or_cons (And.intro @on_int (And.intro @on_bool (And.intro @on_str (And.intro @ok_int (And.intro @ok_bool (And.intro @ok_str (And.intro @ok_msl (And.intro @ok_nsl (And.intro @nr_eq (And.intro @bx_eq (And.intro @wc_agg (And.intro @wc_int (And.intro @wc_bool (And.intro @wc_nsl (And.intro @ra_eq (And.intro @raE_0 (And.intro @raE_1 (And.intro @raE_sub (And.intro @sr_eq (And.intro @srE_row (And.intro @srE_sub (And.intro @srS_some (And.intro @srC_some (And.intro @srD_some (And.intro @pc_agg (And.intro @spR_some (And.intro @spE_some (And.intro @spB_true (And.intro @spB_false (And.intro @spC_true (And.intro @spC_false (And.intro @spO_some (And.intro @spQ_some (And.intro @spS_some (And.intro @rl_1 (And.intro @sc_nil (And.intro @sc_clo (And.intro @sc_msl (And.intro @scM_row (And.intro @scK_some (And.intro @rsT_some (And.intro @rsC_val (And.intro @rsO_some (And.intro @rs_0 (And.intro @rs_tmp (And.intro @rs_cell (And.intro @ok_fslN (And.intro @cl_fslN (And.intro @ce_fslN (And.intro @rf_fslN (And.intro @rv_fslN (And.intro @fz_fslN (And.intro @vv_fslN (And.intro @wv_fslN (And.intro @ln_fslN (And.intro @ix_fslN (And.intro @lv_fslN (And.intro @te_fslN (And.intro @pf_f (And.intro @pf_p (And.intro @ldW_eq (And.intro @oc_nil (And.intro @oc_own (And.intro @oc_int (And.intro @oc_bool (And.intro @oc_str (And.intro @oc_fslN (And.intro @oc_msl (And.intro @oc_nsl (And.intro @bs_eq (And.intro @bsE_some (And.intro @pl_nil (And.intro @pl_cons (And.intro @plE_some (And.intro @rl_0 (And.intro @rl_2 (And.intro @rl_5 (And.intro @rl_7 (And.intro @rl_8 (And.intro @tk_all (And.intro @fp_ok (And.intro @fbK_some (And.intro @fb_nil (And.intro @fbP_some (And.intro @fb_cons (And.intro @agM_some (And.intro @inpK_val (And.intro @wp_eq (And.intro @wpE_some (And.intro @ap2_nil (And.intro @ro5 (And.intro @ro4 (And.intro @fl_none (And.intro @Option.map_some.{0,0} (And.intro @List.take_succ_cons.{0} (And.intro @List.take_zero.{0} (And.intro @List.drop_succ_cons.{0} (And.intro @List.drop_zero.{0} (And.intro @Option.map_none.{0,0} (And.intro @List.all_cons.{0} (And.intro @List.all_nil.{0} (And.intro @List.isEmpty_cons.{0} (And.intro @List.isEmpty_nil.{0} (And.intro @List.mem_cons.{0} (And.intro @List.not_mem_nil.{0} (And.intro @or_false (And.intro @false_or (And.intro @or_true (And.intro @true_or (And.intro @not_false_eq_true (And.intro @not_true_eq_false (And.intro @and_true (And.intro @true_and (And.intro @and_self (And.intro @Bool.and_self (And.intro @Bool.and_true (And.intro @Bool.true_and (And.intro @List.set_cons_zero.{0} (And.intro @List.set_cons_succ.{0} (And.intro @List.flatMap_cons.{0,0} (And.intro @List.flatMap_nil.{0,0} (And.intro @List.filter_cons.{0} (And.intro @List.filter_nil.{0} (And.intro @eq_self.{1} (And.intro @List.nodup_cons.{0} (And.intro @List.nodup_nil.{0} (And.intro @Option.isSome_some.{0} (And.intro @Option.isSome_none.{0} (And.intro @Bool.or_true (And.intro @Bool.or_false (And.intro @Bool.true_or (And.intro @Bool.false_or (And.intro @Nat.le_refl (And.intro @Nat.lt_irrefl (And.intro @Nat.not_lt_zero (And.intro @Nat.zero_le (And.intro @decide_eq_true_eq (And.intro @ne_eq.{1} (And.intro @List.cons_append.{0} (And.intro @List.nil_append.{0} (And.intro @List.append_nil.{0} (And.intro @List.length_cons.{0} (And.intro @List.length_nil.{0} (And.intro @List.getElem?_cons_zero.{0} (And.intro @List.getElem?_cons_succ.{0} (And.intro @List.getElem?_nil.{0} (And.intro @Nat.add_zero (And.intro @Bool.not_true (And.intro @Bool.not_false (And.intro @decide_true (And.intro @decide_false (And.intro @Option.some.injEq.{0} (And.intro @Bool.true_eq_false (And.intro @Bool.false_eq_true (And.intro @u_not (And.intro @Option.isNone_some.{0} (And.intro @Option.isNone_none.{0} (And.intro @Bool.and_false (And.intro @Bool.false_and (And.intro @cond_false.{1} (And.intro @cond_true.{1} (And.intro @ont3 (And.intro @ty3_z (And.intro @ty3_b (And.intro @ty3_d (And.intro @ft3 (And.intro @ty3_0 (And.intro @pt3 (And.intro @ont4 (And.intro @ty4_z (And.intro @ty4_0 (And.intro @pt4 (And.intro @ont9 (And.intro @pt9 (And.intro @ont21 (And.intro @ty21_d (And.intro @ont22 (And.intro @pt22 (And.intro @ln22 (And.intro @ix22 (And.intro @ont23 (And.intro @pt23 (And.intro @ln23 (And.intro @ix23 (And.intro @ont25 (And.intro @ty25_z (And.intro @fq25_0 (And.intro @fq25_1 (And.intro @pt25 (And.intro @ont28 (And.intro @ty28_z (And.intro @ty28_d (And.intro @ty28_0 (And.intro @pt28 (And.intro @el28 (And.intro @ln28 (And.intro @ap28 (And.intro @ix28 (And.intro @ont29 (And.intro @ty29_z (And.intro @ty29_d (And.intro @pt29 (And.intro @el29 (And.intro @ln29 (And.intro @ap29 (And.intro @ix29 (And.intro @ont31 (And.intro @ty31_z (And.intro @ty31_0 (And.intro @bd31 (And.intro @pl31_0 (And.intro @fq31_0 (And.intro @pl31_1 (And.intro @fq31_1 (And.intro @fq31_2 (And.intro @pl31_3 (And.intro @fq31_3 (And.intro @fq31_4 (And.intro @pt31 (And.intro @ont37 (And.intro @ty37_z (And.intro @ty37_d (And.intro @pt37 (And.intro @el37 (And.intro @ln37 (And.intro @ap37 (And.intro @ix37 (And.intro @ont39 (And.intro @ty39_z (And.intro @ty39_0 (And.intro @bd39 (And.intro @pl39_0 (And.intro @fq39_0 (And.intro @pl39_1 (And.intro @fq39_1 (And.intro @pl39_2 (And.intro @fq39_2 (And.intro @pl39_3 (And.intro @fq39_3 (And.intro @pt39 (And.intro @ont41 (And.intro @ty41_z (And.intro @ty41_b (And.intro @ft41 (And.intro @ty41_0 (And.intro @bd41 (And.intro @pl41_0 (And.intro @fq41_0 (And.intro @pl41_1 (And.intro @fq41_1 (And.intro @pt41 (And.intro @ont77 (And.intro @ty77_z (And.intro @ty77_b (And.intro @ft77 (And.intro @ty77_0 (And.intro @bd77 (And.intro @pl77_0 (And.intro @fq77_0 (And.intro @fq77_1 (And.intro @fq77_2 (And.intro @fq77_3 (And.intro @fq77_4 (And.intro @fq77_5 (And.intro @fq77_6 (And.intro @fq77_7 (And.intro @pt77 (And.intro @ont96 (And.intro @ty96_z (And.intro @ty96_0 (And.intro @fq96_1 (And.intro @fq96_2 (And.intro @pt96 (And.intro @ont116 (And.intro @ty116_z (And.intro @ty116_0 (And.intro @bd116 (And.intro @pl116_0 (And.intro @fq116_0 (And.intro @pl116_1 (And.intro @fq116_1 (And.intro @pt116 (And.intro @ont161 (And.intro @ty161_d (And.intro @el161 (And.intro @ln161 (And.intro @ix161 (And.intro @ont225 (And.intro @ty225_d (And.intro @xo_eq (And.intro @xm_eq (And.intro @xg_eq (And.intro @tm_eq (And.intro @ki_eq (And.intro @cl_eq (And.intro @xa_eq (And.intro @xl_eq (And.intro @xf_eq (And.intro @xi_eq (And.intro @xn_eq (And.intro @xs_eq (And.intro @xb_eq (And.intro @gl_eq (And.intro @gf_eq (@R_eq))))))))))))))))))))))))))))))))))))))))))))))))))))))))))))))))))))))))))))))))))))))))))))))))))))))))))))))))))))))))))))))))))))))))))))))))))))))))))))))))))))))))))))))))))))))))))))))))))))))))))))))))))))))))))))))))))))))))))))))))))))))))))))))))))))))))))))))))))))))))))))))))))))))))))))))))))))))))))))))))))))))))))))))))))))))))))))))))))))))))))))))))))))))))))))))))))))))))))))))))))))))))))))))))))))))))))))))))))))))))))))))))))))))))))))))))))))))))))))))))))))))))))))))))))))))))))))))))))))))))))))))))))))))))))))))))))))))))))))))
def XP:=And.intro XQ (And.intro @sp_eq Nat.zero_add)
end Go.Proofs.AmEnv
