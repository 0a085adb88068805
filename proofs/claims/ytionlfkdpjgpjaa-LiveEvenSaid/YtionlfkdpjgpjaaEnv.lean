/- The tables of this program's types and functions, facts on them, and the rules. Conditions: none. -/
import Derived.Test.YtionlfkdpjgpjaaCode
set_option linter.unusedVariables false
set_option linter.unusedSimpArgs false
set_option linter.unusedSectionVars false
set_option linter.defProp false
set_option maxRecDepth 100000
namespace Go.Proofs.AmEnv
open Go.AM
noncomputable def fS:TI:=⟨.int .i64,1,8,.int .i64 0⟩
noncomputable def ty4:TI:=⟨.bool,1,1,.bool false⟩
noncomputable def BP:TI:=⟨.string,1,16,.str []⟩
noncomputable def xD:TI:=⟨.int .i32,1,4,.int .i32 0⟩
noncomputable def jP:TI:=⟨.slice 96,1,24,.nilsl⟩
noncomputable def jQ:TI:=⟨.slice 31,1,24,.nilsl⟩
noncomputable def aB:TI:=⟨.struct [(22,0),(23,1)] false,2,48,.agg [.nilsl,.nilsl]⟩
noncomputable def dD:TI:=⟨.slice 3,1,24,.nilsl⟩
noncomputable def aC:TI:=⟨.slice 41,1,24,.nilsl⟩
noncomputable def Df:TI:=⟨.struct [(9,0),(3,1),(3,2),(28,3),(29,4)] false,5,80,.agg [(.str []),(.int .i64 0),(.int .i64 0),.nilsl,.nilsl]⟩
noncomputable def JX:TI:=⟨.func,1,8,.nilfn⟩
noncomputable def JY:TI:=⟨.func,1,8,.nilfn⟩
noncomputable def aD:TI:=⟨.slice 77,1,24,.nilsl⟩
noncomputable def JZ:TI:=⟨.struct [(3,0),(3,1),(3,2),(3,3)] true,4,32,.agg [(.int .i64 0),(.int .i64 0),(.int .i64 0),(.int .i64 0)]⟩
noncomputable def Kl:TI:=⟨.struct [(3,0),(3,1),(3,2),(3,3)] true,4,32,.agg [(.int .i64 0),(.int .i64 0),(.int .i64 0),(.int .i64 0)]⟩
noncomputable def Km:TI:=⟨.struct [(37,0),(39,1)] false,5,56,.agg [.nilsl,(.int .i64 0),(.int .i64 0),(.int .i64 0),(.int .i64 0)]⟩
noncomputable def KA:TI:=⟨.func,1,8,.nilfn⟩
noncomputable def KB:TI:=⟨.func,1,8,.nilfn⟩
noncomputable def KC:TI:=⟨.func,1,8,.nilfn⟩
noncomputable def KD:TI:=⟨.func,1,8,.nilfn⟩
noncomputable def dE:TI:=⟨.slice 54,1,24,.nilsl⟩
noncomputable def Gt:TI:=⟨.slice 4,1,24,.nilsl⟩
noncomputable def KE:TI:=⟨.int .i64,1,8,.int .i64 0⟩
noncomputable def KF:TI:=⟨.func,1,8,.nilfn⟩
noncomputable def KG:TI:=⟨.slice 66,1,24,.nilsl⟩
noncomputable def KH:TI:=⟨.struct [(28,0),(54,1)] false,2,48,.agg [.nilsl,.nilsl]⟩
noncomputable def Bd:TI:=⟨.struct [(3,0),(3,1),(3,2),(3,3),(3,4),(3,5),(9,6),(28,7)] false,8,88,.agg [(.int .i64 0),(.int .i64 0),(.int .i64 0),(.int .i64 0),(.int .i64 0),(.int .i64 0),(.str []),.nilsl]⟩
noncomputable def KI:TI:=⟨.func,1,8,.nilfn⟩
noncomputable def Pz:TI:=⟨.struct [(9,0),(3,1),(3,2),(3,3)] true,4,40,.agg [(.str []),(.int .i64 0),(.int .i64 0),(.int .i64 0)]⟩
noncomputable def KJ:TI:=⟨.func,1,8,.nilfn⟩
noncomputable def BQ:TI:=⟨.func,1,8,.nilfn⟩
noncomputable def BR:TI:=⟨.func,1,8,.nilfn⟩
noncomputable def fT:TI:=⟨.func,1,8,.nilfn⟩
noncomputable def aE:TI:=⟨.func,1,8,.nilfn⟩
noncomputable def BS:TI:=⟨.func,1,8,.nilfn⟩
noncomputable def Il:TI:=⟨.struct [(25,0),(31,2)] false,7,128,.agg [.nilsl,.nilsl,(.str []),(.int .i64 0),(.int .i64 0),.nilsl,.nilsl]⟩
noncomputable def BT:TI:=⟨.map 3 188,1,8,.nilmap⟩
noncomputable def BU:TI:=⟨.struct [(31,0),(122,5)] false,6,88,.agg [(.str []),(.int .i64 0),(.int .i64 0),.nilsl,.nilsl,.nilmap]⟩
noncomputable def BV:TI:=⟨.func,1,8,.nilfn⟩
noncomputable def BW:TI:=⟨.func,1,8,.nilfn⟩
noncomputable def mX:TI:=⟨.int .i8,1,1,.int .i8 0⟩
noncomputable def ti (t:Nat):Option TI :=
 bif Nat.blt t 48 then (bif Nat.blt t 32 then (bif Nat.blt t 23 then (bif Nat.blt t 9 then (bif Nat.blt t 4 then (bif Nat.beq t 3 then some fS else none) else (bif Nat.beq t 4 then some ty4 else none)) else (bif Nat.blt t 21 then (bif Nat.beq t 9 then some BP else none) else (bif Nat.blt t 22 then (bif Nat.beq t 21 then some xD else none) else (bif Nat.beq t 22 then some jP else none)))) else (bif Nat.blt t 28 then (bif Nat.blt t 25 then (bif Nat.beq t 23 then some jQ else none) else (bif Nat.beq t 25 then some aB else none)) else (bif Nat.blt t 29 then (bif Nat.beq t 28 then some dD else none) else (bif Nat.blt t 31 then (bif Nat.beq t 29 then some aC else none) else (bif Nat.beq t 31 then some Df else none))))) else (bif Nat.blt t 41 then (bif Nat.blt t 37 then (bif Nat.blt t 33 then (bif Nat.beq t 32 then some JX else none) else (bif Nat.beq t 33 then some JY else none)) else (bif Nat.blt t 38 then (bif Nat.beq t 37 then some aD else none) else (bif Nat.blt t 39 then (bif Nat.beq t 38 then some JZ else none) else (bif Nat.beq t 39 then some Kl else none)))) else (bif Nat.blt t 43 then (bif Nat.blt t 42 then (bif Nat.beq t 41 then some Km else none) else (bif Nat.beq t 42 then some KA else none)) else (bif Nat.blt t 45 then (bif Nat.beq t 43 then some KB else none) else (bif Nat.blt t 47 then (bif Nat.beq t 45 then some KC else none) else (bif Nat.beq t 47 then some KD else none)))))) else (bif Nat.blt t 105 then (bif Nat.blt t 66 then (bif Nat.blt t 55 then (bif Nat.blt t 54 then (bif Nat.beq t 48 then some dE else none) else (bif Nat.beq t 54 then some Gt else none)) else (bif Nat.blt t 61 then (bif Nat.beq t 55 then some KE else none) else (bif Nat.blt t 62 then (bif Nat.beq t 61 then some KF else none) else (bif Nat.beq t 62 then some KG else none)))) else (bif Nat.blt t 94 then (bif Nat.blt t 77 then (bif Nat.beq t 66 then some KH else none) else (bif Nat.beq t 77 then some Bd else none)) else (bif Nat.blt t 96 then (bif Nat.beq t 94 then some KI else none) else (bif Nat.blt t 97 then (bif Nat.beq t 96 then some Pz else none) else (bif Nat.beq t 97 then some KJ else none))))) else (bif Nat.blt t 116 then (bif Nat.blt t 110 then (bif Nat.blt t 109 then (bif Nat.beq t 105 then some BQ else none) else (bif Nat.beq t 109 then some BR else none)) else (bif Nat.blt t 112 then (bif Nat.beq t 110 then some fT else none) else (bif Nat.blt t 113 then (bif Nat.beq t 112 then some aE else none) else (bif Nat.beq t 113 then some BS else none)))) else (bif Nat.blt t 170 then (bif Nat.blt t 122 then (bif Nat.beq t 116 then some Il else none) else (bif Nat.blt t 124 then (bif Nat.beq t 122 then some BT else none) else (bif Nat.beq t 124 then some BU else none))) else (bif Nat.blt t 223 then (bif Nat.beq t 170 then some BV else none) else (bif Nat.blt t 225 then (bif Nat.beq t 223 then some BW else none) else (bif Nat.beq t 225 then some mX else none))))))
noncomputable def fn (f:Nat):Option FI :=
 bif Nat.blt f 125 then (bif Nat.blt f 99 then (bif Nat.blt f 39 then (bif Nat.blt f 32 then (bif Nat.blt f 14 then (bif Nat.beq f 7 then some OT else none) else (bif Nat.beq f 14 then some JM else none)) else (bif Nat.blt f 33 then (bif Nat.beq f 32 then some JN else none) else (bif Nat.blt f 35 then (bif Nat.beq f 33 then some JO else none) else (bif Nat.beq f 35 then some JP else none)))) else (bif Nat.blt f 70 then (bif Nat.blt f 40 then (bif Nat.beq f 39 then some JQ else none) else (bif Nat.blt f 61 then (bif Nat.beq f 40 then some JR else none) else (bif Nat.beq f 61 then some JS else none))) else (bif Nat.blt f 97 then (bif Nat.beq f 70 then some JT else none) else (bif Nat.blt f 98 then (bif Nat.beq f 97 then some JU else none) else (bif Nat.beq f 98 then some JV else none))))) else (bif Nat.blt f 106 then (bif Nat.blt f 101 then (bif Nat.blt f 100 then (bif Nat.beq f 99 then some JW else none) else (bif Nat.beq f 100 then some AE else none)) else (bif Nat.blt f 102 then (bif Nat.beq f 101 then some AF else none) else (bif Nat.blt f 105 then (bif Nat.beq f 102 then some AG else none) else (bif Nat.beq f 105 then some AH else none)))) else (bif Nat.blt f 111 then (bif Nat.blt f 107 then (bif Nat.beq f 106 then some AI else none) else (bif Nat.blt f 108 then (bif Nat.beq f 107 then some AJ else none) else (bif Nat.beq f 108 then some AK else none))) else (bif Nat.blt f 112 then (bif Nat.beq f 111 then some AL else none) else (bif Nat.blt f 113 then (bif Nat.beq f 112 then some AN else none) else (bif Nat.beq f 113 then some AO else none)))))) else (bif Nat.blt f 188 then (bif Nat.blt f 174 then (bif Nat.blt f 168 then (bif Nat.blt f 162 then (bif Nat.beq f 125 then some AP else none) else (bif Nat.beq f 162 then some AQ else none)) else (bif Nat.blt f 169 then (bif Nat.beq f 168 then some AS else none) else (bif Nat.blt f 170 then (bif Nat.beq f 169 then some AT else none) else (bif Nat.beq f 170 then some AU else none)))) else (bif Nat.blt f 177 then (bif Nat.blt f 175 then (bif Nat.beq f 174 then some AW else none) else (bif Nat.blt f 176 then (bif Nat.beq f 175 then some AX else none) else (bif Nat.beq f 176 then some AY else none))) else (bif Nat.blt f 178 then (bif Nat.beq f 177 then some AZ else none) else (bif Nat.blt f 182 then (bif Nat.beq f 178 then some BA else none) else (bif Nat.beq f 182 then some BB else none))))) else (bif Nat.blt f 246 then (bif Nat.blt f 223 then (bif Nat.blt f 221 then (bif Nat.beq f 188 then some BD else none) else (bif Nat.blt f 222 then (bif Nat.beq f 221 then some BE else none) else (bif Nat.beq f 222 then some BF else none))) else (bif Nat.blt f 224 then (bif Nat.beq f 223 then some BG else none) else (bif Nat.blt f 225 then (bif Nat.beq f 224 then some BH else none) else (bif Nat.beq f 225 then some BI else none)))) else (bif Nat.blt f 249 then (bif Nat.blt f 247 then (bif Nat.beq f 246 then some BJ else none) else (bif Nat.blt f 248 then (bif Nat.beq f 247 then some BK else none) else (bif Nat.beq f 248 then some BL else none))) else (bif Nat.blt f 250 then (bif Nat.beq f 249 then some BM else none) else (bif Nat.blt f 264 then (bif Nat.beq f 250 then some BN else none) else (bif Nat.beq f 264 then some BO else none))))))
noncomputable def A0:Env:=⟨ti,fn,fun _=>none,fun f=>Nat.beq f 245,some 0,fun _=>false,fun _=>none,fun _ _=>false⟩
noncomputable section
def A5 (f:Nat):Option PFn:=bif Nat.blt f 125 then (bif Nat.blt f 99 then (bif Nat.blt f 39 then (bif Nat.blt f 32 then (bif Nat.blt f 14 then (bif Nat.beq f 7 then some MK else none) else (bif Nat.beq f 14 then some zT else none)) else (bif Nat.blt f 33 then (bif Nat.beq f 32 then some zU else none) else (bif Nat.blt f 35 then (bif Nat.beq f 33 then some zV else none) else (bif Nat.beq f 35 then some zW else none)))) else (bif Nat.blt f 70 then (bif Nat.blt f 40 then (bif Nat.beq f 39 then some zX else none) else (bif Nat.blt f 61 then (bif Nat.beq f 40 then some zY else none) else (bif Nat.beq f 61 then some zZ else none))) else (bif Nat.blt f 97 then (bif Nat.beq f 70 then some AA else none) else (bif Nat.blt f 98 then (bif Nat.beq f 97 then some AB else none) else (bif Nat.beq f 98 then some AC else none))))) else (bif Nat.blt f 106 then (bif Nat.blt f 101 then (bif Nat.blt f 100 then (bif Nat.beq f 99 then some AD else none) else (bif Nat.beq f 100 then some uG else none)) else (bif Nat.blt f 102 then (bif Nat.beq f 101 then some uH else none) else (bif Nat.blt f 105 then (bif Nat.beq f 102 then some uI else none) else (bif Nat.beq f 105 then some uJ else none)))) else (bif Nat.blt f 111 then (bif Nat.blt f 107 then (bif Nat.beq f 106 then some uK else none) else (bif Nat.blt f 108 then (bif Nat.beq f 107 then some uL else none) else (bif Nat.beq f 108 then some uM else none))) else (bif Nat.blt f 112 then (bif Nat.beq f 111 then some uN else none) else (bif Nat.blt f 113 then (bif Nat.beq f 112 then some uO else none) else (bif Nat.beq f 113 then some uP else none)))))) else (bif Nat.blt f 188 then (bif Nat.blt f 174 then (bif Nat.blt f 168 then (bif Nat.blt f 162 then (bif Nat.beq f 125 then some uQ else none) else (bif Nat.beq f 162 then some uR else none)) else (bif Nat.blt f 169 then (bif Nat.beq f 168 then some uS else none) else (bif Nat.blt f 170 then (bif Nat.beq f 169 then some uT else none) else (bif Nat.beq f 170 then some uU else none)))) else (bif Nat.blt f 177 then (bif Nat.blt f 175 then (bif Nat.beq f 174 then some uV else none) else (bif Nat.blt f 176 then (bif Nat.beq f 175 then some uW else none) else (bif Nat.beq f 176 then some uX else none))) else (bif Nat.blt f 178 then (bif Nat.beq f 177 then some uY else none) else (bif Nat.blt f 182 then (bif Nat.beq f 178 then some uZ else none) else (bif Nat.beq f 182 then some vA else none))))) else (bif Nat.blt f 246 then (bif Nat.blt f 223 then (bif Nat.blt f 221 then (bif Nat.beq f 188 then some vB else none) else (bif Nat.blt f 222 then (bif Nat.beq f 221 then some vC else none) else (bif Nat.beq f 222 then some vD else none))) else (bif Nat.blt f 224 then (bif Nat.beq f 223 then some vE else none) else (bif Nat.blt f 225 then (bif Nat.beq f 224 then some vF else none) else (bif Nat.beq f 225 then some vG else none)))) else (bif Nat.blt f 249 then (bif Nat.blt f 247 then (bif Nat.beq f 246 then some vH else none) else (bif Nat.blt f 248 then (bif Nat.beq f 247 then some vI else none) else (bif Nat.beq f 248 then some vJ else none))) else (bif Nat.blt f 250 then (bif Nat.beq f 249 then some vK else none) else (bif Nat.blt f 264 then (bif Nat.beq f 250 then some vL else none) else (bif Nat.beq f 264 then some vM else none))))))
end
end Go.Proofs.AmEnv
set_option maxRecDepth 100000
set_option linter.unusedVariables false
namespace Go.Proofs.AmEnv
open Go Go.AM
noncomputable section
theorem ont3 {f:TI->OpS}:Y4 A0 3 f=f fS:=rfl
theorem ML:A0.ti 3=some fS:=rfl
theorem ty3_z:fS.size=1:=rfl
theorem ty3_b:fS.bytes=8:=rfl
theorem ty3_d:fS.desc=.int .i64:=rfl
theorem ty3_0:fS.zero=.int .i64 0:=rfl
theorem pt3 (cs:List AV) (o:Nat):partOf fS cs o=cs[o]?:=H7 rfl cs o
theorem ont4 {f:TI->OpS}:Y4 A0 4 f=f ty4:=rfl
theorem ty4_z:ty4.size=1:=rfl
theorem ty4_b:ty4.bytes=1:=rfl
theorem ty4_0:ty4.zero=.bool false:=rfl
theorem pt4 (cs:List AV) (o:Nat):partOf ty4 cs o=cs[o]?:=H7 rfl cs o
theorem ont9 {f:TI->OpS}:Y4 A0 9 f=f BP:=rfl
theorem OU:A0.ti 9=some BP:=rfl
theorem pt9 (cs:List AV) (o:Nat):partOf BP cs o=cs[o]?:=H7 rfl cs o
theorem ont21 {f:TI->OpS}:Y4 A0 21 f=f xD:=rfl
theorem ty21_d:xD.desc=.int .i32:=rfl
theorem ont22 {f:TI->OpS}:Y4 A0 22 f=f jP:=rfl
theorem KK:A0.ti 22=some jP:=rfl
theorem pt22 (cs:List AV) (o:Nat):partOf jP cs o=cs[o]?:=H7 rfl cs o
theorem ln22 (l:List TypeId) (x:AV) (r:List AV) (K:PK):I6 A0 .len (22 :: l) (x :: r) K=qE x K:=rfl
theorem ix22 (x:AV) (i:AV):Gc A0 jP x i=Ye Pz x i:=rfl
theorem ont23 {f:TI->OpS}:Y4 A0 23 f=f jQ:=rfl
theorem KL:A0.ti 23=some jQ:=rfl
theorem pt23 (cs:List AV) (o:Nat):partOf jQ cs o=cs[o]?:=H7 rfl cs o
theorem ln23 (l:List TypeId) (x:AV) (r:List AV) (K:PK):I6 A0 .len (23 :: l) (x :: r) K=qE x K:=rfl
theorem ix23 (x:AV) (i:AV):Gc A0 jQ x i=Ye Df x i:=rfl
theorem ont25 {f:TI->OpS}:Y4 A0 25 f=f aB:=rfl
theorem KM:A0.ti 25=some aB:=rfl
theorem ty25_z:aB.size=2:=rfl
theorem fq25_0 (x:AV):L7 A0 aB 0 x=B4 x 0:=rfl
theorem fq25_1 (x:AV):L7 A0 aB 1 x=B4 x 1:=rfl
theorem pt25 (cs:List AV) (o:Nat):partOf aB cs o=if o + 2≤cs.length then some (.agg ((cs.drop o).take 2)) else none:=U9 rfl cs o
theorem ont28 {f:TI->OpS}:Y4 A0 28 f=f dD:=rfl
theorem KN:A0.ti 28=some dD:=rfl
theorem ty28_d:dD.desc=.slice 3:=rfl
theorem pt28 (cs:List AV) (o:Nat):partOf dD cs o=cs[o]?:=H7 rfl cs o
theorem el28:elemOfT A0 (.slice 3)=some fS:=rfl
theorem ln28 (l:List TypeId) (x:AV) (r:List AV) (K:PK):I6 A0 .len (28 :: l) (x :: r) K=qE x K:=rfl
theorem ap28 (l:List TypeId) (s x:AV) (r:List AV) (K:PK):I6 A0 .append (28 :: 28 :: l) (s :: x :: r) K=v7 fS s x K:=rfl
theorem ix28 (x:AV) (i:AV):Gc A0 dD x i=Ye fS x i:=rfl
theorem ont29 {f:TI->OpS}:Y4 A0 29 f=f aC:=rfl
theorem KO:A0.ti 29=some aC:=rfl
theorem ty29_z:aC.size=1:=rfl
theorem ty29_d:aC.desc=.slice 41:=rfl
theorem pt29 (cs:List AV) (o:Nat):partOf aC cs o=cs[o]?:=H7 rfl cs o
theorem el29:elemOfT A0 (.slice 41)=some Km:=rfl
theorem ln29 (l:List TypeId) (x:AV) (r:List AV) (K:PK):I6 A0 .len (29 :: l) (x :: r) K=qE x K:=rfl
theorem ix29 (x:AV) (i:AV):Gc A0 aC x i=Ye Km x i:=rfl
theorem ont31 {f:TI->OpS}:Y4 A0 31 f=f Df:=rfl
theorem xE:A0.ti 31=some Df:=rfl
theorem ty31_z:Df.size=5:=rfl
theorem ty31_0:Df.zero=.agg [(.str []),(.int .i64 0),(.int .i64 0),.nilsl,.nilsl]:=rfl
def mY (i:Nat):Option (Nat × Nat):=A4 (Sd [(9,0),(3,1),(3,2),(28,3),(29,4)] i) fun f=>onTI A0 f.1 none fun g=>some (f.2,g.size)
theorem bd31 (ps:List (Nat × AV)):S4 A0 Df ps=zJ (R3 mY ps Df.zero.cells):=rfl
theorem pl31_0:mY 0=some (0,1):=rfl
theorem fq31_0 (x:AV):L7 A0 Df 0 x=B4 x 0:=rfl
theorem pl31_1:mY 1=some (1,1):=rfl
theorem fq31_1 (x:AV):L7 A0 Df 1 x=B4 x 1:=rfl
theorem fq31_2 (x:AV):L7 A0 Df 2 x=B4 x 2:=rfl
theorem pl31_3:mY 3=some (3,1):=rfl
theorem fq31_3 (x:AV):L7 A0 Df 3 x=B4 x 3:=rfl
theorem pl31_4:mY 4=some (4,1):=rfl
theorem fq31_4 (x:AV):L7 A0 Df 4 x=B4 x 4:=rfl
theorem pt31 (cs:List AV) (o:Nat):partOf Df cs o=if o + 5≤cs.length then some (.agg ((cs.drop o).take 5)) else none:=U9 rfl cs o
theorem ont37 {f:TI->OpS}:Y4 A0 37 f=f aD:=rfl
theorem KP:A0.ti 37=some aD:=rfl
theorem ty37_z:aD.size=1:=rfl
theorem ty37_d:aD.desc=.slice 77:=rfl
theorem pt37 (cs:List AV) (o:Nat):partOf aD cs o=cs[o]?:=H7 rfl cs o
theorem el37:elemOfT A0 (.slice 77)=some Bd:=rfl
theorem ln37 (l:List TypeId) (x:AV) (r:List AV) (K:PK):I6 A0 .len (37 :: l) (x :: r) K=qE x K:=rfl
theorem ix37 (x:AV) (i:AV):Gc A0 aD x i=Ye Bd x i:=rfl
theorem ont39 {f:TI->OpS}:Y4 A0 39 f=f Kl:=rfl
theorem KQ:A0.ti 39=some Kl:=rfl
theorem ty39_z:Kl.size=4:=rfl
theorem ty39_0:Kl.zero=.agg [(.int .i64 0),(.int .i64 0),(.int .i64 0),(.int .i64 0)]:=rfl
def xF (i:Nat):Option (Nat × Nat):=A4 (Sd [(3,0),(3,1),(3,2),(3,3)] i) fun f=>onTI A0 f.1 none fun g=>some (f.2,g.size)
theorem bd39 (ps:List (Nat × AV)):S4 A0 Kl ps=zJ (R3 xF ps Kl.zero.cells):=rfl
theorem pl39_0:xF 0=some (0,1):=rfl
theorem fq39_0 (x:AV):L7 A0 Kl 0 x=B4 x 0:=rfl
theorem pl39_1:xF 1=some (1,1):=rfl
theorem fq39_1 (x:AV):L7 A0 Kl 1 x=B4 x 1:=rfl
theorem fq39_2 (x:AV):L7 A0 Kl 2 x=B4 x 2:=rfl
theorem fq39_3 (x:AV):L7 A0 Kl 3 x=B4 x 3:=rfl
theorem pt39 (cs:List AV) (o:Nat):partOf Kl cs o=if o + 4≤cs.length then some (.agg ((cs.drop o).take 4)) else none:=U9 rfl cs o
theorem ont41 {f:TI->OpS}:Y4 A0 41 f=f Km:=rfl
theorem xG:A0.ti 41=some Km:=rfl
theorem ty41_z:Km.size=5:=rfl
theorem ty41_0:Km.zero=.agg [.nilsl,(.int .i64 0),(.int .i64 0),(.int .i64 0),(.int .i64 0)]:=rfl
def xH (i:Nat):Option (Nat × Nat):=A4 (Sd [(37,0),(39,1)] i) fun f=>onTI A0 f.1 none fun g=>some (f.2,g.size)
theorem bd41 (ps:List (Nat × AV)):S4 A0 Km ps=zJ (R3 xH ps Km.zero.cells):=rfl
theorem pl41_0:xH 0=some (0,1):=rfl
theorem fq41_0 (x:AV):L7 A0 Km 0 x=B4 x 0:=rfl
theorem pl41_1:xH 1=some (1,4):=rfl
theorem fq41_1 (x:AV):L7 A0 Km 1 x=B4 x 1:=rfl
theorem pt41 (cs:List AV) (o:Nat):partOf Km cs o=if o + 5≤cs.length then some (.agg ((cs.drop o).take 5)) else none:=U9 rfl cs o
theorem ont48 {f:TI->OpS}:Y4 A0 48 f=f dE:=rfl
theorem ty48_z:dE.size=1:=rfl
theorem ty48_d:dE.desc=.slice 54:=rfl
theorem ty48_0:dE.zero=.nilsl:=rfl
theorem pt48 (cs:List AV) (o:Nat):partOf dE cs o=cs[o]?:=H7 rfl cs o
theorem el48:elemOfT A0 (.slice 54)=some Gt:=rfl
theorem ln48 (l:List TypeId) (x:AV) (r:List AV) (K:PK):I6 A0 .len (48 :: l) (x :: r) K=qE x K:=rfl
theorem ap48 (l:List TypeId) (s x:AV) (r:List AV) (K:PK):I6 A0 .append (48 :: 48 :: l) (s :: x :: r) K=v7 Gt s x K:=rfl
theorem ix48 (x:AV) (i:AV):Gc A0 dE x i=Ye Gt x i:=rfl
theorem ont54 {f:TI->OpS}:Y4 A0 54 f=f Gt:=rfl
theorem ty54_z:Gt.size=1:=rfl
theorem ty54_b:Gt.bytes=24:=rfl
theorem ty54_d:Gt.desc=.slice 4:=rfl
theorem ft54:flatT Gt=false:=rfl
theorem ty54_0:Gt.zero=.nilsl:=rfl
theorem pt54 (cs:List AV) (o:Nat):partOf Gt cs o=cs[o]?:=H7 rfl cs o
theorem el54:elemOfT A0 (.slice 4)=some ty4:=rfl
theorem ln54 (l:List TypeId) (x:AV) (r:List AV) (K:PK):I6 A0 .len (54 :: l) (x :: r) K=qE x K:=rfl
theorem ap54 (l:List TypeId) (s x:AV) (r:List AV) (K:PK):I6 A0 .append (54 :: 54 :: l) (s :: x :: r) K=v7 ty4 s x K:=rfl
theorem ix54 (x:AV) (i:AV):Gc A0 Gt x i=Ye ty4 x i:=rfl
theorem ont77 {f:TI->OpS}:Y4 A0 77 f=f Bd:=rfl
theorem xI:A0.ti 77=some Bd:=rfl
theorem ty77_z:Bd.size=8:=rfl
theorem ty77_0:Bd.zero=.agg [(.int .i64 0),(.int .i64 0),(.int .i64 0),(.int .i64 0),(.int .i64 0),(.int .i64 0),(.str []),.nilsl]:=rfl
def dF (i:Nat):Option (Nat × Nat):=A4 (Sd [(3,0),(3,1),(3,2),(3,3),(3,4),(3,5),(9,6),(28,7)] i) fun f=>onTI A0 f.1 none fun g=>some (f.2,g.size)
theorem bd77 (ps:List (Nat × AV)):S4 A0 Bd ps=zJ (R3 dF ps Bd.zero.cells):=rfl
theorem pl77_0:dF 0=some (0,1):=rfl
theorem fq77_0 (x:AV):L7 A0 Bd 0 x=B4 x 0:=rfl
theorem pl77_1:dF 1=some (1,1):=rfl
theorem fq77_1 (x:AV):L7 A0 Bd 1 x=B4 x 1:=rfl
theorem pl77_2:dF 2=some (2,1):=rfl
theorem fq77_2 (x:AV):L7 A0 Bd 2 x=B4 x 2:=rfl
theorem pl77_3:dF 3=some (3,1):=rfl
theorem fq77_3 (x:AV):L7 A0 Bd 3 x=B4 x 3:=rfl
theorem fq77_4 (x:AV):L7 A0 Bd 4 x=B4 x 4:=rfl
theorem pl77_5:dF 5=some (5,1):=rfl
theorem fq77_5 (x:AV):L7 A0 Bd 5 x=B4 x 5:=rfl
theorem pl77_6:dF 6=some (6,1):=rfl
theorem fq77_6 (x:AV):L7 A0 Bd 6 x=B4 x 6:=rfl
theorem fq77_7 (x:AV):L7 A0 Bd 7 x=B4 x 7:=rfl
theorem pt77 (cs:List AV) (o:Nat):partOf Bd cs o=if o + 8≤cs.length then some (.agg ((cs.drop o).take 8)) else none:=U9 rfl cs o
theorem ont96 {f:TI->OpS}:Y4 A0 96 f=f Pz:=rfl
theorem xJ:A0.ti 96=some Pz:=rfl
theorem ty96_z:Pz.size=4:=rfl
theorem ty96_0:Pz.zero=.agg [(.str []),(.int .i64 0),(.int .i64 0),(.int .i64 0)]:=rfl
theorem fq96_1 (x:AV):L7 A0 Pz 1 x=B4 x 1:=rfl
theorem fq96_2 (x:AV):L7 A0 Pz 2 x=B4 x 2:=rfl
theorem pt96 (cs:List AV) (o:Nat):partOf Pz cs o=if o + 4≤cs.length then some (.agg ((cs.drop o).take 4)) else none:=U9 rfl cs o
theorem ont110 {f:TI->OpS}:Y4 A0 110 f=f fT:=rfl
theorem ty110_z:fT.size=1:=rfl
theorem pt110 (cs:List AV) (o:Nat):partOf fT cs o=cs[o]?:=H7 rfl cs o
theorem ont112 {f:TI->OpS}:Y4 A0 112 f=f aE:=rfl
theorem ty112_z:aE.size=1:=rfl
theorem ty112_0:aE.zero=.nilfn:=rfl
theorem pt112 (cs:List AV) (o:Nat):partOf aE cs o=cs[o]?:=H7 rfl cs o
theorem ont116 {f:TI->OpS}:Y4 A0 116 f=f Il:=rfl
theorem ty116_z:Il.size=7:=rfl
theorem ty116_0:Il.zero=.agg [.nilsl,.nilsl,(.str []),(.int .i64 0),(.int .i64 0),.nilsl,.nilsl]:=rfl
def mZ (i:Nat):Option (Nat × Nat):=A4 (Sd [(25,0),(31,2)] i) fun f=>onTI A0 f.1 none fun g=>some (f.2,g.size)
theorem bd116 (ps:List (Nat × AV)):S4 A0 Il ps=zJ (R3 mZ ps Il.zero.cells):=rfl
theorem pl116_0:mZ 0=some (0,2):=rfl
theorem fq116_0 (x:AV):L7 A0 Il 0 x=B4 x 0:=rfl
theorem pl116_1:mZ 1=some (2,5):=rfl
theorem fq116_1 (x:AV):L7 A0 Il 1 x=B4 x 2:=rfl
theorem pt116 (cs:List AV) (o:Nat):partOf Il cs o=if o + 7≤cs.length then some (.agg ((cs.drop o).take 7)) else none:=U9 rfl cs o
theorem ont225 {f:TI->OpS}:Y4 A0 225 f=f mX:=rfl
theorem ty225_d:mX.desc=.int .i8:=rfl
end
end Go.Proofs.AmEnv
set_option maxRecDepth 100000
namespace Go.Proofs.AmEnv
open Go Go.AM
def XQ:=And.intro @e_seq (And.intro @seqP_normal (And.intro @seqP_exit (And.intro @seqP_ret (And.intro @e_skip (And.intro @e_exit (And.intro @e_ret (And.intro @e_reg (And.intro @e_regD (And.intro @e_pre (And.intro @e_cond (And.intro @condP_true (And.intro @condP_false (And.intro @e_block (And.intro @blkP_normal (And.intro @blkP_exit (And.intro @blkP_ret (And.intro @e_post (And.intro @postP_normal (And.intro @postP_exit (And.intro @postP_ret (And.intro @callK_val (And.intro @doP_val (And.intro @doP_call (And.intro @e_nil (And.intro @e_op (And.intro @e_opS (And.intro @e_opY (And.intro @callD_val (And.intro @doD_val (And.intro @doD_call (And.intro @callQ_val (And.intro @doQ_call (And.intro @doQ_sep (And.intro @tailR_val (And.intro @e_nilD (And.intro @d_op (And.intro @d_opQ (And.intro @d_opS (And.intro @d_opY (And.intro @d_opYQ (And.intro @bodyP_ret (And.intro @bodyP_norm (And.intro @lk_hit (And.intro @lk_cons (And.intro @st_some (And.intro @st_none (And.intro @ov_tmp (And.intro @ov_int (And.intro @ov_bool (And.intro @ov_str (And.intro @ov_nsl (And.intro @ov_func (And.intro @ol_nil (And.intro @ol_cons (And.intro @oq_nil (And.intro @oq_cons (And.intro @en_nil (And.intro @en_cons (And.intro @one_1 (And.intro @one_2 (And.intro @one_0 (And.intro @ofV_some (And.intro @ofO_some (And.intro @pr_move (And.intro @pr_assign (And.intro @pr_pick (And.intro @pick_true (And.intro @pick_false (And.intro @pr_alloc (And.intro @pr_box (And.intro @pr_build (And.intro @pr_buildSl (And.intro @pr_load (And.intro @pr_store (And.intro @pr_bin (And.intro @pr_un (And.intro @pr_conv (And.intro @pr_fn (And.intro @pr_fa (And.intro @pr_ia (And.intro @pr_ex (And.intro @pr_bui (And.intro @pr_call (And.intro @pr_callv (And.intro @callP_fn (And.intro @bp_add (And.intro @bp_sub (And.intro @bp_eql (And.intro @bp_neq (And.intro @bp_lss (And.intro @bp_leq (And.intro @bp_gtr (And.intro @bp_geq (And.intro @bp_eqlS (And.intro @bp_neqS (And.intro @wt_true (And.intro @wt_false (And.intro @wt_skip (And.intro @ln_fsl (And.intro @ln_msl (And.intro @ix_fsl (And.intro @ix_msl (And.intro @exP_tup (And.intro @ld_f (And.intro @ld_p (And.intro @ldR_some (And.intro @ldE_some (And.intro @tb_nil (And.intro @tb_eq (And.intro @tbE_row (And.intro @te_eq (And.intro @teE_row (And.intro @te_fsl (And.intro @ap_eq (And.intro @ap1_some (And.intro @ap2_some (And.intro @cl_int (And.intro @cl_bool (And.intro @cl_str (And.intro @cl_own (And.intro @cl_msl (And.intro @ag_int (And.intro @ag_bool (And.intro @ag_agg (And.intro @cl_nsl (And.intro @ce_int (And.intro @ce_bool (And.intro @ce_str (And.intro @ce_agg (And.intro @ce_fsl (And.intro @ce_nsl (And.intro @ce_msl (And.intro @ce_own (And.intro @ro6 (And.intro @rwE_row (And.intro @rwE_sub (And.intro @rwS_some (And.intro @rwC_some (And.intro @rwD_some (And.intro @ow_own (And.intro @rt_eq (And.intro @rtE_row (And.intro @rtE_sub (And.intro @ch_eq (And.intro @chE_row (And.intro @kp_eq (And.intro @kg_nil (And.intro @kg_row (And.intro @kg_dead (And.intro @kg_sub (And.intro @mf_nil (And.intro @mf_cons (And.intro @mo_nil (And.intro @mo_cons (And.intro @mp_1 (And.intro @mp_2 (And.intro @mk1_eq (And.intro @mk2_eq (And.intro @sm_eq (And.intro @smE_row (And.intro @smE_row1 (And.intro @smE_sub (And.intro @mi_eq (And.intro @rs_nil (And.intro @rs_cons (And.intro @rg_0 (And.intro @rg_2 (And.intro @rp_nil (And.intro @rp_cons (And.intro @po_cons (And.intro @rv_int (And.intro @rv_bool (And.intro @rv_str (And.intro @rv_agg (And.intro @rv_fsl (And.intro @rv_msl (And.intro @rv_ptr (And.intro @rv_nsl (And.intro @rv_fn (And.intro @rl_nil (And.intro @rl_cons (And.intro @rnM_some (And.intro @rnP_some (And.intro @et_eq (And.intro @enE_some (And.intro @rp_row (And.intro @rp_row1 (And.intro @rp_sub (And.intro @rnS_some (And.intro @rf_int (And.intro @rf_bool (And.intro @rf_str (And.intro @rf_agg (And.intro @rf_fsl (And.intro @rf_msl (And.intro @rf_ptr (And.intro @rf_nsl (And.intro @rf_fn (And.intro @rfl_nil (And.intro @rfl_cons (And.intro @bk_nil (And.intro @bk_cons (And.intro @bv_eq (And.intro @bs_nil (And.intro @bs_cons (And.intro @bc_msl (And.intro @bc_int (And.intro @bc_str (And.intro @lv_agg (And.intro @lv_msl (And.intro @lv_int (And.intro @lv_bool (And.intro @lv_str (And.intro @lv_fsl (And.intro @lv_own (And.intro @lv_nsl (And.intro @hd_cons (And.intro @os_nil (And.intro @os_cons (And.intro @ot_nil (And.intro @ot_own (And.intro @ot_int (And.intro @ot_bool (And.intro @ot_str (And.intro @va_nil (And.intro @va_cons (And.intro @co_some (And.intro @vv_int (And.intro @vv_bool (And.intro @wv_int (And.intro @wv_str (And.intro @agO_some (And.intro @vv_agg (And.intro @vl_nil (And.intro @vl_cons (And.intro @fsO_some (And.intro @vv_msl (And.intro @wv_msl (And.intro @vmE_some (And.intro @fz_nil (And.intro @fz_cons (And.intro @fz_int (And.intro @fz_bool (And.intro @fz_str (And.intro @fz_agg (And.intro @fz_own (And.intro @fz_nsl (And.intro @nf_int (And.intro @nf_bool (And.intro @nf_own (And.intro @nfl_nil (And.intro @nfl_cons (And.intro @or_nil (And.intro @or_cons (And.intro @on_int (And.intro @on_bool (And.intro @ok_int (And.intro @ok_bool (And.intro @ok_str (And.intro @ok_msl (And.intro @ok_fn (And.intro @nr_eq (And.intro @bx_eq (And.intro @wc_agg (And.intro @wc_int (And.intro @wc_bool (And.intro @wc_nsl (And.intro @wc_msl (And.intro @ra_eq (And.intro @raE_0 (And.intro @raE_1 (And.intro @raE_sub (And.intro @sr_eq (And.intro @srE_row (And.intro @srE_sub (And.intro @srS_some (And.intro @srC_some (And.intro @srD_some (And.intro @spR_some (And.intro @spE_some (And.intro @spB_true (And.intro @spB_false (And.intro @spC_true (And.intro @spC_false (And.intro @spO_some (And.intro @spQ_some (And.intro @spS_some (And.intro @rl_1 (And.intro @sc_nil (And.intro @sc_clo (And.intro @sc_msl (And.intro @scM_row (And.intro @scK_some (And.intro @rsT_some (And.intro @rsC_val (And.intro @rsO_some (And.intro @rs_0 (And.intro @rs_tmp (And.intro @rs_cell (And.intro @ok_fslN (And.intro @cl_fslN (And.intro @ce_fslN (And.intro @rf_fslN (And.intro @rv_fslN (And.intro @fz_fslN (And.intro @vv_fslN (And.intro @wv_fslN (And.intro @ln_fslN (And.intro @ix_fslN (And.intro @lv_fslN (And.intro @te_fslN (And.intro @pf_f (And.intro @pf_p (And.intro @ldW_eq (And.intro @oc_nil (And.intro @oc_own (And.intro @oc_int (And.intro @oc_bool (And.intro @oc_str (And.intro @oc_fsl (And.intro @oc_fslN (And.intro @oc_msl (And.intro @oc_nsl (And.intro @oc_fn (And.intro @lv_fn (And.intro @ce_fn (And.intro @bs_eq (And.intro @bsE_some (And.intro @pl_nil (And.intro @pl_cons (And.intro @plE_some (And.intro @rl_0 (And.intro @rl_2 (And.intro @rl_5 (And.intro @rl_7 (And.intro @tk_all (And.intro @fp_ok (And.intro @fbK_some (And.intro @fb_nil (And.intro @fbP_some (And.intro @fb_cons (And.intro @agM_some (And.intro @inpK_val (And.intro @wp_eq (And.intro @wpE_some (And.intro @ap2_nil (And.intro @ro5 (And.intro @fl_none (And.intro @sep_eq (And.intro @sepV_ptr (And.intro @rtQ_eq (And.intro @rtQ_row (And.intro @Option.map_some.{0,0} (And.intro @List.take_succ_cons.{0} (And.intro @List.take_zero.{0} (And.intro @List.drop_succ_cons.{0} (And.intro @List.drop_zero.{0} (And.intro @Option.map_none.{0,0} (And.intro @List.all_cons.{0} (And.intro @List.all_nil.{0} (And.intro @List.isEmpty_cons.{0} (And.intro @List.isEmpty_nil.{0} (And.intro @List.mem_cons.{0} (And.intro @List.not_mem_nil.{0} (And.intro @or_false (And.intro @false_or (And.intro @or_true (And.intro @true_or (And.intro @not_false_eq_true (And.intro @not_true_eq_false (And.intro @and_true (And.intro @true_and (And.intro @and_self (And.intro @Bool.and_self (And.intro @Bool.and_true (And.intro @Bool.true_and (And.intro @List.set_cons_zero.{0} (And.intro @List.set_cons_succ.{0} (And.intro @List.flatMap_cons.{0,0} (And.intro @List.flatMap_nil.{0,0} (And.intro @List.filter_cons.{0} (And.intro @List.filter_nil.{0} (And.intro @eq_self.{1} (And.intro @List.nodup_cons.{0} (And.intro @List.nodup_nil.{0} (And.intro @Option.isSome_some.{0} (And.intro @Option.isSome_none.{0} (And.intro @Bool.or_true (And.intro @Bool.or_false (And.intro @Bool.true_or (And.intro @Bool.false_or (And.intro @Nat.le_refl (And.intro @Nat.lt_irrefl (And.intro @Nat.not_lt_zero (And.intro @Nat.zero_le (And.intro @decide_eq_true_eq (And.intro @ne_eq.{1} (And.intro @List.cons_append.{0} (And.intro @List.nil_append.{0} (And.intro @List.append_nil.{0} (And.intro @List.length_cons.{0} (And.intro @List.length_nil.{0} (And.intro @List.getElem?_cons_zero.{0} (And.intro @List.getElem?_cons_succ.{0} (And.intro @List.getElem?_nil.{0} (And.intro @Nat.add_zero (And.intro @Bool.not_true (And.intro @Bool.not_false (And.intro @decide_true (And.intro @decide_false (And.intro @Option.some.injEq.{0} (And.intro @Bool.true_eq_false (And.intro @Bool.false_eq_true (And.intro @u_not (And.intro @Option.isNone_some.{0} (And.intro @Option.isNone_none.{0} (And.intro @Bool.and_false (And.intro @Bool.false_and (And.intro @cond_false.{1} (And.intro @cond_true.{1} (And.intro @ont3 (And.intro @ty3_z (And.intro @ty3_b (And.intro @ty3_d (And.intro @ty3_0 (And.intro @pt3 (And.intro @ont4 (And.intro @ty4_z (And.intro @ty4_b (And.intro @ty4_0 (And.intro @pt4 (And.intro @ont9 (And.intro @pt9 (And.intro @ont21 (And.intro @ty21_d (And.intro @ont22 (And.intro @pt22 (And.intro @ln22 (And.intro @ix22 (And.intro @ont23 (And.intro @pt23 (And.intro @ln23 (And.intro @ix23 (And.intro @ont25 (And.intro @ty25_z (And.intro @fq25_0 (And.intro @fq25_1 (And.intro @pt25 (And.intro @ont28 (And.intro @ty28_d (And.intro @pt28 (And.intro @el28 (And.intro @ln28 (And.intro @ap28 (And.intro @ix28 (And.intro @ont29 (And.intro @ty29_z (And.intro @ty29_d (And.intro @pt29 (And.intro @el29 (And.intro @ln29 (And.intro @ix29 (And.intro @ont31 (And.intro @ty31_z (And.intro @ty31_0 (And.intro @bd31 (And.intro @pl31_0 (And.intro @fq31_0 (And.intro @pl31_1 (And.intro @fq31_1 (And.intro @fq31_2 (And.intro @pl31_3 (And.intro @fq31_3 (And.intro @pl31_4 (And.intro @fq31_4 (And.intro @pt31 (And.intro @ont37 (And.intro @ty37_z (And.intro @ty37_d (And.intro @pt37 (And.intro @el37 (And.intro @ln37 (And.intro @ix37 (And.intro @ont39 (And.intro @ty39_z (And.intro @ty39_0 (And.intro @bd39 (And.intro @pl39_0 (And.intro @fq39_0 (And.intro @pl39_1 (And.intro @fq39_1 (And.intro @fq39_2 (And.intro @fq39_3 (And.intro @pt39 (And.intro @ont41 (And.intro @ty41_z (And.intro @ty41_0 (And.intro @bd41 (And.intro @pl41_0 (And.intro @fq41_0 (And.intro @pl41_1 (And.intro @fq41_1 (And.intro @pt41 (And.intro @ont48 (And.intro @ty48_z (And.intro @ty48_d (And.intro @ty48_0 (And.intro @pt48 (And.intro @el48 (And.intro @ln48 (And.intro @ap48 (And.intro @ix48 (And.intro @ont54 (And.intro @ty54_z (And.intro @ty54_b (And.intro @ty54_d (And.intro @ft54 (And.intro @ty54_0 (And.intro @pt54 (And.intro @el54 (And.intro @ln54 (And.intro @ap54 (And.intro @ix54 (And.intro @ont77 (And.intro @ty77_z (And.intro @ty77_0 (And.intro @bd77 (And.intro @pl77_0 (And.intro @fq77_0 (And.intro @pl77_1 (And.intro @fq77_1 (And.intro @pl77_2 (And.intro @fq77_2 (And.intro @pl77_3 (And.intro @fq77_3 (And.intro @fq77_4 (And.intro @pl77_5 (And.intro @fq77_5 (And.intro @pl77_6 (And.intro @fq77_6 (And.intro @fq77_7 (And.intro @pt77 (And.intro @ont96 (And.intro @ty96_z (And.intro @ty96_0 (And.intro @fq96_1 (And.intro @fq96_2 (And.intro @pt96 (And.intro @ont110 (And.intro @ty110_z (And.intro @pt110 (And.intro @ont112 (And.intro @ty112_z (And.intro @ty112_0 (And.intro @pt112 (And.intro @ont116 (And.intro @ty116_z (And.intro @ty116_0 (And.intro @bd116 (And.intro @pl116_0 (And.intro @fq116_0 (And.intro @pl116_1 (And.intro @fq116_1 (And.intro @pt116 (And.intro @ont225 (And.intro @ty225_d (And.intro @xo_eq (And.intro @xm_eq (And.intro @xg_eq (And.intro @tm_eq (And.intro @ki_eq (And.intro @cl_eq (And.intro @xa_eq (And.intro @xl_eq (And.intro @xf_eq (And.intro @xi_eq (And.intro @xn_eq (And.intro @xs_eq (And.intro @xb_eq (And.intro @gl_eq (And.intro @gf_eq (@R_eq))))))))))))))))))))))))))))))))))))))))))))))))))))))))))))))))))))))))))))))))))))))))))))))))))))))))))))))))))))))))))))))))))))))))))))))))))))))))))))))))))))))))))))))))))))))))))))))))))))))))))))))))))))))))))))))))))))))))))))))))))))))))))))))))))))))))))))))))))))))))))))))))))))))))))))))))))))))))))))))))))))))))))))))))))))))))))))))))))))))))))))))))))))))))))))))))))))))))))))))))))))))))))))))))))))))))))))))))))))))))))))))))))))))))))))))))))))))))))))))))))))))))))))))))))))))))))))))))))))))))))))))))))))))))))))))))))))))))))))))))))))))))))))))))))))))
def XP:=And.intro XQ (And.intro @sp_eq Nat.zero_add)
end Go.Proofs.AmEnv
