/- Facts on this program's types and functions. Conditions: none. -/
import Derived.Test.YthgknegndpoebaaDoorEnv
set_option linter.unusedVariables false
set_option linter.unusedSimpArgs false
set_option maxRecDepth 100000
set_option linter.unusedVariables false
namespace Go.Proofs.AmEnv
open Go Go.AM
section
variable {fr:Tr} {h:Heap} {call:CallF}
theorem ti25:env.ti 25=some ty25:=rfl
theorem po25 (cs:List AV) (o:Nat):partOf ty25 cs o=if o+2≤cs.length then some (.agg ((cs.drop o).take 2)) else none:=part_agg rfl cs o
theorem z25:ty25.zero=.agg [.nilsl,.nilsl]:=rfl
theorem ld25 (x:Operand):evOp env call (.load 25 x) fr h=lift (loadA ty25 (opv env x fr) h) h:=rfl
theorem ti23:env.ti 23=some ty23:=rfl
theorem po23 (cs:List AV) (o:Nat):partOf ty23 cs o=cs[o]?:=part_one rfl cs o
theorem z23:ty23.zero=.nilsl:=rfl
theorem ld23 (x:Operand):evOp env call (.load 23 x) fr h=lift (loadA ty23 (opv env x fr) h) h:=rfl
theorem ti31:env.ti 31=some ty31:=rfl
theorem po31 (cs:List AV) (o:Nat):partOf ty31 cs o=if o+5≤cs.length then some (.agg ((cs.drop o).take 5)) else none:=part_agg rfl cs o
theorem z31:ty31.zero=.agg [(.str []),(.int .i64 0),(.int .i64 0),.nilsl,.nilsl]:=rfl
theorem ld31 (x:Operand):evOp env call (.load 31 x) fr h=lift (loadA ty31 (opv env x fr) h) h:=rfl
theorem st31 (a x:Operand):evOp env call (.store 31 a x) fr h=liftH (storeA ty31 (opv env a fr) (opv env x fr) h):=rfl
theorem fa25_1 (x:Operand):evOp env call (.fieldAddr 25 x 1) fr h=lift (plusOff (opv env x fr) 1) h:=rfl
theorem ix23 (x i:Operand):evOp env call (.indexAddr 23 x i) fr h=idxR env 31 (opv env x fr) (opv env i fr) h:=p_idx ti23 rfl x i
theorem ln23 (x:Operand):evOp env call (.call ⟨.builtin .len,#[x],#[23]⟩) fr h=lenR (lenSl (opv env x fr)) h:=p_len ti23 rfl x
theorem bx25 (x:Operand):evOp env call (.box 25 x) fr h=boxR 2 (opv env x fr) h:=rfl
theorem al31:evOp env call (.alloc 31) fr h=newA 5 (.agg [(.str []),(.int .i64 0),(.int .i64 0),.nilsl,.nilsl]) h:=rfl
theorem ti29:env.ti 29=some ty29:=rfl
theorem po29 (cs:List AV) (o:Nat):partOf ty29 cs o=cs[o]?:=part_one rfl cs o
theorem z29:ty29.zero=.nilsl:=rfl
theorem ld29 (x:Operand):evOp env call (.load 29 x) fr h=lift (loadA ty29 (opv env x fr) h) h:=rfl
theorem ti28:env.ti 28=some ty28:=rfl
theorem po28 (cs:List AV) (o:Nat):partOf ty28 cs o=cs[o]?:=part_one rfl cs o
theorem z28:ty28.zero=.nilsl:=rfl
theorem ld28 (x:Operand):evOp env call (.load 28 x) fr h=lift (loadA ty28 (opv env x fr) h) h:=rfl
theorem ti36:env.ti 36=some ty36:=rfl
theorem po36 (cs:List AV) (o:Nat):partOf ty36 cs o=cs[o]?:=part_one rfl cs o
theorem z36:ty36.zero=.nilsl:=rfl
theorem ld36 (x:Operand):evOp env call (.load 36 x) fr h=lift (loadA ty36 (opv env x fr) h) h:=rfl
theorem ti38:env.ti 38=some ty38:=rfl
theorem po38 (cs:List AV) (o:Nat):partOf ty38 cs o=if o+4≤cs.length then some (.agg ((cs.drop o).take 4)) else none:=part_agg rfl cs o
theorem z38:ty38.zero=.agg [(.int .i64 0),(.int .i64 0),(.int .i64 0),(.int .i64 0)]:=rfl
theorem ld38 (x:Operand):evOp env call (.load 38 x) fr h=lift (loadA ty38 (opv env x fr) h) h:=rfl
theorem ti42:env.ti 42=some ty42:=rfl
theorem po42 (cs:List AV) (o:Nat):partOf ty42 cs o=if o+8≤cs.length then some (.agg ((cs.drop o).take 8)) else none:=part_agg rfl cs o
theorem z42:ty42.zero=.agg [(.int .i64 0),(.int .i64 0),(.int .i64 0),(.int .i64 0),(.int .i64 0),(.int .i64 0),(.str []),.nilsl]:=rfl
theorem ld42 (x:Operand):evOp env call (.load 42 x) fr h=lift (loadA ty42 (opv env x fr) h) h:=rfl
theorem ti3:env.ti 3=some ty3:=rfl
theorem po3 (cs:List AV) (o:Nat):partOf ty3 cs o=cs[o]?:=part_one rfl cs o
theorem z3:ty3.zero=.int .i64 0:=rfl
theorem ld3 (x:Operand):evOp env call (.load 3 x) fr h=lift (loadA ty3 (opv env x fr) h) h:=rfl
theorem ti9:env.ti 9=some ty9:=rfl
theorem po9 (cs:List AV) (o:Nat):partOf ty9 cs o=cs[o]?:=part_one rfl cs o
theorem z9:ty9.zero=.str []:=rfl
theorem ld9 (x:Operand):evOp env call (.load 9 x) fr h=lift (loadA ty9 (opv env x fr) h) h:=rfl
theorem st42 (a x:Operand):evOp env call (.store 42 a x) fr h=liftH (storeA ty42 (opv env a fr) (opv env x fr) h):=rfl
theorem fa31_4 (x:Operand):evOp env call (.fieldAddr 31 x 4) fr h=lift (plusOff (opv env x fr) 4) h:=rfl
theorem fa31_3 (x:Operand):evOp env call (.fieldAddr 31 x 3) fr h=lift (plusOff (opv env x fr) 3) h:=rfl
theorem ti40:env.ti 40=some ty40:=rfl
theorem po40 (cs:List AV) (o:Nat):partOf ty40 cs o=if o+5≤cs.length then some (.agg ((cs.drop o).take 5)) else none:=part_agg rfl cs o
theorem z40:ty40.zero=.agg [.nilsl,(.int .i64 0),(.int .i64 0),(.int .i64 0),(.int .i64 0)]:=rfl
theorem fa40_0 (x:Operand):evOp env call (.fieldAddr 40 x 0) fr h=lift (plusOff (opv env x fr) 0) h:=rfl
theorem fa40_1 (x:Operand):evOp env call (.fieldAddr 40 x 1) fr h=lift (plusOff (opv env x fr) 1) h:=rfl
theorem fa42_0 (x:Operand):evOp env call (.fieldAddr 42 x 0) fr h=lift (plusOff (opv env x fr) 0) h:=rfl
theorem fa42_6 (x:Operand):evOp env call (.fieldAddr 42 x 6) fr h=lift (plusOff (opv env x fr) 6) h:=rfl
theorem fa42_3 (x:Operand):evOp env call (.fieldAddr 42 x 3) fr h=lift (plusOff (opv env x fr) 3) h:=rfl
theorem fa42_4 (x:Operand):evOp env call (.fieldAddr 42 x 4) fr h=lift (plusOff (opv env x fr) 4) h:=rfl
theorem fa42_2 (x:Operand):evOp env call (.fieldAddr 42 x 2) fr h=lift (plusOff (opv env x fr) 2) h:=rfl
theorem fa42_1 (x:Operand):evOp env call (.fieldAddr 42 x 1) fr h=lift (plusOff (opv env x fr) 1) h:=rfl
theorem ix29 (x i:Operand):evOp env call (.indexAddr 29 x i) fr h=idxR env 40 (opv env x fr) (opv env i fr) h:=p_idx ti29 rfl x i
theorem ix36 (x i:Operand):evOp env call (.indexAddr 36 x i) fr h=idxR env 42 (opv env x fr) (opv env i fr) h:=p_idx ti36 rfl x i
theorem ln29 (x:Operand):evOp env call (.call ⟨.builtin .len,#[x],#[29]⟩) fr h=lenR (lenSl (opv env x fr)) h:=p_len ti29 rfl x
theorem ln36 (x:Operand):evOp env call (.call ⟨.builtin .len,#[x],#[36]⟩) fr h=lenR (lenSl (opv env x fr)) h:=p_len ti36 rfl x
theorem al42:evOp env call (.alloc 42) fr h=newA 8 (.agg [(.int .i64 0),(.int .i64 0),(.int .i64 0),(.int .i64 0),(.int .i64 0),(.int .i64 0),(.str []),.nilsl]) h:=rfl
theorem ln28 (x:Operand):evOp env call (.call ⟨.builtin .len,#[x],#[28]⟩) fr h=lenR (lenSl (opv env x fr)) h:=p_len ti28 rfl x
theorem st28 (a x:Operand):evOp env call (.store 28 a x) fr h=liftH (storeA ty28 (opv env a fr) (opv env x fr) h):=rfl
theorem st29 (a x:Operand):evOp env call (.store 29 a x) fr h=liftH (storeA ty29 (opv env a fr) (opv env x fr) h):=rfl
theorem bx31 (x:Operand):evOp env call (.box 31 x) fr h=boxR 5 (opv env x fr) h:=rfl
theorem ld40 (x:Operand):evOp env call (.load 40 x) fr h=lift (loadA ty40 (opv env x fr) h) h:=rfl
theorem st40 (a x:Operand):evOp env call (.store 40 a x) fr h=liftH (storeA ty40 (opv env a fr) (opv env x fr) h):=rfl
theorem fa31_0 (x:Operand):evOp env call (.fieldAddr 31 x 0) fr h=lift (plusOff (opv env x fr) 0) h:=rfl
theorem fa31_1 (x:Operand):evOp env call (.fieldAddr 31 x 1) fr h=lift (plusOff (opv env x fr) 1) h:=rfl
theorem fa31_2 (x:Operand):evOp env call (.fieldAddr 31 x 2) fr h=lift (plusOff (opv env x fr) 2) h:=rfl
theorem al40:evOp env call (.alloc 40) fr h=newA 5 (.agg [.nilsl,(.int .i64 0),(.int .i64 0),(.int .i64 0),(.int .i64 0)]) h:=rfl
theorem st3 (a x:Operand):evOp env call (.store 3 a x) fr h=liftH (storeA ty3 (opv env a fr) (opv env x fr) h):=rfl
theorem st9 (a x:Operand):evOp env call (.store 9 a x) fr h=liftH (storeA ty9 (opv env a fr) (opv env x fr) h):=rfl
theorem fa42_7 (x:Operand):evOp env call (.fieldAddr 42 x 7) fr h=lift (plusOff (opv env x fr) 7) h:=rfl
theorem ix28 (x i:Operand):evOp env call (.indexAddr 28 x i) fr h=idxR env 3 (opv env x fr) (opv env i fr) h:=p_idx ti28 rfl x i
theorem fa42_5 (x:Operand):evOp env call (.fieldAddr 42 x 5) fr h=lift (plusOff (opv env x fr) 5) h:=rfl
theorem bx42 (x:Operand):evOp env call (.box 42 x) fr h=boxR 8 (opv env x fr) h:=rfl
theorem ti22:env.ti 22=some ty22:=rfl
theorem po22 (cs:List AV) (o:Nat):partOf ty22 cs o=cs[o]?:=part_one rfl cs o
theorem z22:ty22.zero=.nilsl:=rfl
theorem ld22 (x:Operand):evOp env call (.load 22 x) fr h=lift (loadA ty22 (opv env x fr) h) h:=rfl
theorem fa25_0 (x:Operand):evOp env call (.fieldAddr 25 x 0) fr h=lift (plusOff (opv env x fr) 0) h:=rfl
theorem ti56:env.ti 56=some ty56:=rfl
theorem po56 (cs:List AV) (o:Nat):partOf ty56 cs o=if o+4≤cs.length then some (.agg ((cs.drop o).take 4)) else none:=part_agg rfl cs o
theorem z56:ty56.zero=.agg [(.str []),(.int .i64 0),(.int .i64 0),(.int .i64 0)]:=rfl
theorem fa56_2 (x:Operand):evOp env call (.fieldAddr 56 x 2) fr h=lift (plusOff (opv env x fr) 2) h:=rfl
theorem ix22 (x i:Operand):evOp env call (.indexAddr 22 x i) fr h=idxR env 56 (opv env x fr) (opv env i fr) h:=p_idx ti22 rfl x i
theorem ln22 (x:Operand):evOp env call (.call ⟨.builtin .len,#[x],#[22]⟩) fr h=lenR (lenSl (opv env x fr)) h:=p_len ti22 rfl x
theorem ld56 (x:Operand):evOp env call (.load 56 x) fr h=lift (loadA ty56 (opv env x fr) h) h:=rfl
theorem st56 (a x:Operand):evOp env call (.store 56 a x) fr h=liftH (storeA ty56 (opv env a fr) (opv env x fr) h):=rfl
theorem fa56_1 (x:Operand):evOp env call (.fieldAddr 56 x 1) fr h=lift (plusOff (opv env x fr) 1) h:=rfl
theorem al56:evOp env call (.alloc 56) fr h=newA 4 (.agg [(.str []),(.int .i64 0),(.int .i64 0),(.int .i64 0)]) h:=rfl
theorem po64 (cs:List AV) (o:Nat):partOf ty64 cs o=if o+22≤cs.length then some (.agg ((cs.drop o).take 22)) else none:=part_agg rfl cs o
theorem z64:ty64.zero=.agg [(.str []),(.str []),(.str []),(.str []),(.str []),(.str []),(.str []),(.str []),(.str []),(.str []),(.str []),(.str []),(.str []),(.str []),(.str []),(.str []),(.str []),(.str []),(.str []),(.str []),(.str []),(.str [])]:=rfl
theorem ld64 (x:Operand):evOp env call (.load 64 x) fr h=lift (loadA ty64 (opv env x fr) h) h:=rfl
theorem po63 (cs:List AV) (o:Nat):partOf ty63 cs o=if o+2≤cs.length then some (.agg ((cs.drop o).take 2)) else none:=part_agg rfl cs o
theorem z63:ty63.zero=.agg [(.str []),(.str [])]:=rfl
theorem st63 (a x:Operand):evOp env call (.store 63 a x) fr h=liftH (storeA ty63 (opv env a fr) (opv env x fr) h):=rfl
theorem al63:evOp env call (.alloc 63) fr h=newA 2 (.agg [(.str []),(.str [])]) h:=rfl
theorem po59 (cs:List AV) (o:Nat):partOf ty59 cs o=if o+7≤cs.length then some (.agg ((cs.drop o).take 7)) else none:=part_agg rfl cs o
theorem z59:ty59.zero=.agg [.nilsl,.nilsl,(.str []),(.int .i64 0),(.int .i64 0),.nilsl,.nilsl]:=rfl
theorem ld59 (x:Operand):evOp env call (.load 59 x) fr h=lift (loadA ty59 (opv env x fr) h) h:=rfl
theorem fa59_1 (x:Operand):evOp env call (.fieldAddr 59 x 1) fr h=lift (plusOff (opv env x fr) 2) h:=rfl
theorem bx59 (x:Operand):evOp env call (.box 59 x) fr h=boxR 7 (opv env x fr) h:=rfl
theorem fa59_0 (x:Operand):evOp env call (.fieldAddr 59 x 0) fr h=lift (plusOff (opv env x fr) 0) h:=rfl
theorem fa38_0 (x:Operand):evOp env call (.fieldAddr 38 x 0) fr h=lift (plusOff (opv env x fr) 0) h:=rfl
theorem fa38_2 (x:Operand):evOp env call (.fieldAddr 38 x 2) fr h=lift (plusOff (opv env x fr) 2) h:=rfl
theorem fa38_3 (x:Operand):evOp env call (.fieldAddr 38 x 3) fr h=lift (plusOff (opv env x fr) 3) h:=rfl
theorem fa38_1 (x:Operand):evOp env call (.fieldAddr 38 x 1) fr h=lift (plusOff (opv env x fr) 1) h:=rfl
theorem bx38 (x:Operand):evOp env call (.box 38 x) fr h=boxR 4 (opv env x fr) h:=rfl
theorem po86 (cs:List AV) (o:Nat):partOf ty86 cs o=cs[o]?:=part_one rfl cs o
theorem z86:ty86.zero=.int .i8 0:=rfl
theorem cv3_86 (x:Operand):evOp env call (.convert 3 86 x) fr h=lift (convertA ty86.desc (opv env x fr)) h:=rfl
theorem cv86_3 (x:Operand):evOp env call (.convert 86 3 x) fr h=lift (convertA ty3.desc (opv env x fr)) h:=rfl
theorem po21 (cs:List AV) (o:Nat):partOf ty21 cs o=cs[o]?:=part_one rfl cs o
theorem z21:ty21.zero=.int .i32 0:=rfl
theorem cv3_21 (x:Operand):evOp env call (.convert 3 21 x) fr h=lift (convertA ty21.desc (opv env x fr)) h:=rfl
theorem cv21_3 (x:Operand):evOp env call (.convert 21 3 x) fr h=lift (convertA ty3.desc (opv env x fr)) h:=rfl
theorem bd31_0_1_2_3 (x0 x1 x2 x3:Operand):evOp env call (.build 31 #[(0,x0),(1,x1),(2,x2),(3,x3)]) fr h=lift (buildD env ty31 [(0,opv env x0 fr),(1,opv env x1 fr),(2,opv env x2 fr),(3,opv env x3 fr)]) h:=rfl
theorem bd40_0_1 (x0 x1:Operand):evOp env call (.build 40 #[(0,x0),(1,x1)]) fr h=lift (buildD env ty40 [(0,opv env x0 fr),(1,opv env x1 fr)]) h:=rfl
theorem bd59_0_1 (x0 x1:Operand):evOp env call (.build 59 #[(0,x0),(1,x1)]) fr h=lift (buildD env ty59 [(0,opv env x0 fr),(1,opv env x1 fr)]) h:=rfl
theorem bd38_0 (x0:Operand):evOp env call (.build 38 #[(0,x0)]) fr h=lift (buildD env ty38 [(0,opv env x0 fr)]) h:=rfl
theorem bd31_0_1_3_4 (x0 x1 x2 x3:Operand):evOp env call (.build 31 #[(0,x0),(1,x1),(3,x2),(4,x3)]) fr h=lift (buildD env ty31 [(0,opv env x0 fr),(1,opv env x1 fr),(3,opv env x2 fr),(4,opv env x3 fr)]) h:=rfl
theorem bd42_ (_u:Operand):evOp env call (.build 42 #[]) fr h=lift (buildD env ty42 []) h:=rfl
theorem bd42_0_1_6_3_4 (x0 x1 x2 x3 x4:Operand):evOp env call (.build 42 #[(0,x0),(1,x1),(6,x2),(3,x3),(4,x4)]) fr h=lift (buildD env ty42 [(0,opv env x0 fr),(1,opv env x1 fr),(6,opv env x2 fr),(3,opv env x3 fr),(4,opv env x4 fr)]) h:=rfl
theorem bd42_0 (x0:Operand):evOp env call (.build 42 #[(0,x0)]) fr h=lift (buildD env ty42 [(0,opv env x0 fr)]) h:=rfl
theorem bd40_1 (x0:Operand):evOp env call (.build 40 #[(1,x0)]) fr h=lift (buildD env ty40 [(1,opv env x0 fr)]) h:=rfl
end
theorem pl4:Plain env 4 c4 191 [.tmp 2]:=⟨rfl,rfl,rfl,fun _=>rfl,rfl⟩
theorem pl5:Plain env 5 c5 71 [.tmp 2]:=⟨rfl,rfl,rfl,fun _=>rfl,rfl⟩
theorem pl6:Plain env 6 c6 17 [.tmp 0]:=⟨rfl,rfl,rfl,fun _=>rfl,rfl⟩
theorem pl8:Plain env 8 c8 54 [.cell 2 31]:=⟨rfl,rfl,rfl,fun _=>rfl,rfl⟩
theorem pl12:Plain env 12 c12 27 [.tmp 4]:=⟨rfl,rfl,rfl,fun _=>rfl,rfl⟩
theorem pl13:Plain env 13 c13 59 [.tmp 4]:=⟨rfl,rfl,rfl,fun _=>rfl,rfl⟩
theorem pl14:Plain env 14 c14 96 [.tmp 2]:=⟨rfl,rfl,rfl,fun _=>rfl,rfl⟩
theorem pl15:Plain env 15 c15 68 [.tmp 2]:=⟨rfl,rfl,rfl,fun _=>rfl,rfl⟩
theorem pl16:Plain env 16 c16 33 [.cell 2 42]:=⟨rfl,rfl,rfl,fun _=>rfl,rfl⟩
theorem pl17:Plain env 17 c17 11 [.cell 6 42]:=⟨rfl,rfl,rfl,fun _=>rfl,rfl⟩
theorem pl20:Plain env 20 c20 8 [.tmp 2]:=⟨rfl,rfl,rfl,fun _=>rfl,rfl⟩
theorem pl21:Plain env 21 c21 40 [.cell 2 42]:=⟨rfl,rfl,rfl,fun _=>rfl,rfl⟩
theorem pl27:Plain env 27 c27 9 [.tmp 2]:=⟨rfl,rfl,rfl,fun _=>rfl,rfl⟩
theorem pl28:Plain env 28 c28 84 [.tmp 2]:=⟨rfl,rfl,rfl,fun _=>rfl,rfl⟩
theorem pl29:Plain env 29 c29 6 [.tmp 2]:=⟨rfl,rfl,rfl,fun _=>rfl,rfl⟩
theorem pl35:Plain env 35 c35 9 [.tmp 4]:=⟨rfl,rfl,rfl,fun _=>rfl,rfl⟩
theorem pl36:Plain env 36 c36 6 [.tmp 2]:=⟨rfl,rfl,rfl,fun _=>rfl,rfl⟩
theorem pl37:Plain env 37 c37 37 [.tmp 4]:=⟨rfl,rfl,rfl,fun _=>rfl,rfl⟩
theorem pl38:Plain env 38 c38 100 [.tmp 4]:=⟨rfl,rfl,rfl,fun _=>rfl,rfl⟩
theorem pl39:Plain env 39 c39 19 [.tmp 4]:=⟨rfl,rfl,rfl,fun _=>rfl,rfl⟩
theorem pl40:Plain env 40 c40 6 [.tmp 2]:=⟨rfl,rfl,rfl,fun _=>rfl,rfl⟩
theorem pl42:Plain env 42 c42 19 [.tmp 4]:=⟨rfl,rfl,rfl,fun _=>rfl,rfl⟩
theorem pl43:Plain env 43 c43 41 [.tmp 2]:=⟨rfl,rfl,rfl,fun _=>rfl,rfl⟩
theorem pl44:Plain env 44 c44 114 [.tmp 4]:=⟨rfl,rfl,rfl,fun _=>rfl,rfl⟩
theorem pl45:Plain env 45 c45 150 [.tmp 4]:=⟨rfl,rfl,rfl,fun _=>rfl,rfl⟩
theorem pl46:Plain env 46 c46 12 [.tmp 4]:=⟨rfl,rfl,rfl,fun _=>rfl,rfl⟩
theorem pl48:Plain env 48 c48 27 [.tmp 2]:=⟨rfl,rfl,rfl,fun _=>rfl,rfl⟩
theorem pl49:Plain env 49 c49 20 [.tmp 2]:=⟨rfl,rfl,rfl,fun _=>rfl,rfl⟩
theorem pl50:Plain env 50 c50 9 [.tmp 4]:=⟨rfl,rfl,rfl,fun _=>rfl,rfl⟩
theorem pl51:Plain env 51 c51 19 [.tmp 4]:=⟨rfl,rfl,rfl,fun _=>rfl,rfl⟩
theorem pl52:Plain env 52 c52 25 [.tmp 6]:=⟨rfl,rfl,rfl,fun _=>rfl,rfl⟩
theorem pl53:Plain env 53 c53 14 [.tmp 5]:=⟨rfl,rfl,rfl,fun _=>rfl,rfl⟩
theorem pl54:Plain env 54 c54 5 [.tmp 2]:=⟨rfl,rfl,rfl,fun _=>rfl,rfl⟩
theorem pl55:Plain env 55 c55 51 [.tmp 6]:=⟨rfl,rfl,rfl,fun _=>rfl,rfl⟩
theorem pl57:Plain env 57 c57 19 [.tmp 4]:=⟨rfl,rfl,rfl,fun _=>rfl,rfl⟩
theorem XF:type_of% (And.intro @po25 (And.intro @z25 (And.intro @ld25 (And.intro @po23 (And.intro @z23 (And.intro @ld23 (And.intro @po31 (And.intro @z31 (And.intro @ld31 (And.intro @st31 (And.intro @fa25_1 (And.intro @ix23 (And.intro @ln23 (And.intro @bx25 (And.intro @al31 (And.intro @po29 (And.intro @z29 (And.intro @ld29 (And.intro @po28 (And.intro @z28 (And.intro @ld28 (And.intro @po36 (And.intro @z36 (And.intro @ld36 (And.intro @po38 (And.intro @z38 (And.intro @ld38 (And.intro @po42 (And.intro @z42 (And.intro @ld42 (And.intro @po3 (And.intro @z3 (And.intro @ld3 (And.intro @po9 (And.intro @z9 (And.intro @ld9 (And.intro @st42 (And.intro @fa31_4 (And.intro @fa31_3 (And.intro @po40 (And.intro @z40 (And.intro @fa40_0 (And.intro @fa40_1 (And.intro @fa42_0 (And.intro @fa42_6 (And.intro @fa42_3 (And.intro @fa42_4 (And.intro @fa42_2 (And.intro @fa42_1 (And.intro @ix29 (And.intro @ix36 (And.intro @ln29 (And.intro @ln36 (And.intro @al42 (And.intro @ln28 (And.intro @st28 (And.intro @st29 (And.intro @bx31 (And.intro @ld40 (And.intro @st40 (And.intro @fa31_0 (And.intro @fa31_1 (And.intro @fa31_2 (And.intro @al40 (And.intro @st3 (And.intro @st9 (And.intro @fa42_7 (And.intro @ix28 (And.intro @fa42_5 (And.intro @bx42 (And.intro @po22 (And.intro @z22 (And.intro @ld22 (And.intro @fa25_0 (And.intro @po56 (And.intro @z56 (And.intro @fa56_2 (And.intro @ix22 (And.intro @ln22 (And.intro @ld56 (And.intro @st56 (And.intro @fa56_1 (And.intro @al56 (And.intro @po64 (And.intro @z64 (And.intro @ld64 (And.intro @po63 (And.intro @z63 (And.intro @st63 (And.intro @al63 (And.intro @po59 (And.intro @z59 (And.intro @ld59 (And.intro @fa59_1 (And.intro @bx59 (And.intro @fa59_0 (And.intro @fa38_0 (And.intro @fa38_2 (And.intro @fa38_3 (And.intro @fa38_1 (And.intro @bx38 (And.intro @po86 (And.intro @z86 (And.intro @cv3_86 (And.intro @cv86_3 (And.intro @po21 (And.intro @z21 (And.intro @cv3_21 (And.intro @cv21_3 (And.intro @bd31_0_1_2_3 (And.intro @bd40_0_1 (And.intro @bd59_0_1 (And.intro @bd38_0 (And.intro @bd31_0_1_3_4 (And.intro @bd42_ (And.intro @bd42_0_1_6_3_4 (And.intro @bd42_0 (And.intro @bd40_1 (And.intro @xo_eq (And.intro @xm_eq (And.intro @xg_eq (And.intro @tm_eq (And.intro @ki_eq (@cl_eq)))))))))))))))))))))))))))))))))))))))))))))))))))))))))))))))))))))))))))))))))))))))))))))))))))))))))))))))))))))))))))):=And.intro @po25 (And.intro @z25 (And.intro @ld25 (And.intro @po23 (And.intro @z23 (And.intro @ld23 (And.intro @po31 (And.intro @z31 (And.intro @ld31 (And.intro @st31 (And.intro @fa25_1 (And.intro @ix23 (And.intro @ln23 (And.intro @bx25 (And.intro @al31 (And.intro @po29 (And.intro @z29 (And.intro @ld29 (And.intro @po28 (And.intro @z28 (And.intro @ld28 (And.intro @po36 (And.intro @z36 (And.intro @ld36 (And.intro @po38 (And.intro @z38 (And.intro @ld38 (And.intro @po42 (And.intro @z42 (And.intro @ld42 (And.intro @po3 (And.intro @z3 (And.intro @ld3 (And.intro @po9 (And.intro @z9 (And.intro @ld9 (And.intro @st42 (And.intro @fa31_4 (And.intro @fa31_3 (And.intro @po40 (And.intro @z40 (And.intro @fa40_0 (And.intro @fa40_1 (And.intro @fa42_0 (And.intro @fa42_6 (And.intro @fa42_3 (And.intro @fa42_4 (And.intro @fa42_2 (And.intro @fa42_1 (And.intro @ix29 (And.intro @ix36 (And.intro @ln29 (And.intro @ln36 (And.intro @al42 (And.intro @ln28 (And.intro @st28 (And.intro @st29 (And.intro @bx31 (And.intro @ld40 (And.intro @st40 (And.intro @fa31_0 (And.intro @fa31_1 (And.intro @fa31_2 (And.intro @al40 (And.intro @st3 (And.intro @st9 (And.intro @fa42_7 (And.intro @ix28 (And.intro @fa42_5 (And.intro @bx42 (And.intro @po22 (And.intro @z22 (And.intro @ld22 (And.intro @fa25_0 (And.intro @po56 (And.intro @z56 (And.intro @fa56_2 (And.intro @ix22 (And.intro @ln22 (And.intro @ld56 (And.intro @st56 (And.intro @fa56_1 (And.intro @al56 (And.intro @po64 (And.intro @z64 (And.intro @ld64 (And.intro @po63 (And.intro @z63 (And.intro @st63 (And.intro @al63 (And.intro @po59 (And.intro @z59 (And.intro @ld59 (And.intro @fa59_1 (And.intro @bx59 (And.intro @fa59_0 (And.intro @fa38_0 (And.intro @fa38_2 (And.intro @fa38_3 (And.intro @fa38_1 (And.intro @bx38 (And.intro @po86 (And.intro @z86 (And.intro @cv3_86 (And.intro @cv86_3 (And.intro @po21 (And.intro @z21 (And.intro @cv3_21 (And.intro @cv21_3 (And.intro @bd31_0_1_2_3 (And.intro @bd40_0_1 (And.intro @bd59_0_1 (And.intro @bd38_0 (And.intro @bd31_0_1_3_4 (And.intro @bd42_ (And.intro @bd42_0_1_6_3_4 (And.intro @bd42_0 (And.intro @bd40_1 (And.intro @xo_eq (And.intro @xm_eq (And.intro @xg_eq (And.intro @tm_eq (And.intro @ki_eq (@cl_eq)))))))))))))))))))))))))))))))))))))))))))))))))))))))))))))))))))))))))))))))))))))))))))))))))))))))))))))))))))))))))))
end Go.Proofs.AmEnv
