/- The tables are this program's. Conditions: none. -/
import Derived.Test.YtekhlbomopiemaaGenC
import Derived.KernelRfl
import Derived.Shelf.Strings.Shaped
import Derived.Test.YtekhlbomopiemaaProg
set_option linter.unusedVariables false
set_option linter.unusedSimpArgs false
set_option linter.unusedSectionVars false
set_option linter.defProp false
set_option maxRecDepth 100000
set_option maxHeartbeats 4000000
open Option renaming some→zs,none→zn
open Bool renaming true→zt,false→zf
open Nat renaming eq_of_beq_eq_true→zqa
namespace Go.Proofs
open Go.Shelf
def Try.laysM144_ren:Go.Shelf.Ren:=⟨fun|144=>64|143=>75|219=>79|217=>80|225=>81|224=>82|267=>83|266=>84|314=>85|n=>n,fun|9=>9|4=>4|3=>3|5=>5|46=>125|146=>130|51=>129|n=>n,fun|1=>0|n=>n⟩
theorem Try.laysM144:Go.Proofs.LaysM.n144 Try.prog Try.laysM144_ren:={
 mixed:=by kernel_rfl
 f143:=Try.func75.trans (congrArg zs (by kernel_rfl))
 f144:=Try.func64.trans (congrArg zs (by kernel_rfl))
 f217:=Try.func80.trans (congrArg zs (by kernel_rfl))
 f219:=Try.func79.trans (congrArg zs (by kernel_rfl))
 f224:=Try.func82.trans (congrArg zs (by kernel_rfl))
 f225:=Try.func81.trans (congrArg zs (by kernel_rfl))
 f266:=Try.func84.trans (congrArg zs (by kernel_rfl))
 f267:=Try.func83.trans (congrArg zs (by kernel_rfl))
 f314:=Try.func85.trans (congrArg zs (by kernel_rfl))
 t3:=Try.underlying3
 a3:=Try.isAgg3
 z3:=Try.sizeOf3
 v3:=Try.zeroValue3
 t4:=Try.underlying4
 a4:=Try.isAgg4
 z4:=Try.sizeOf4
 v4:=Try.zeroValue4
 t5:=Try.underlying5
 a5:=Try.isAgg5
 z5:=Try.sizeOf5
 v5:=Try.zeroValue5
 t9:=Try.underlying9
 a9:=Try.isAgg9
 z9:=Try.sizeOf9
 v9:=Try.zeroValue9
 t46:=Try.underlying125
 a46:=Try.isAgg125
 z46:=Try.sizeOf125
 v46:=Try.zeroValue125
 t51:=Try.underlying129
 a51:=Try.isAgg129
 z51:=Try.sizeOf129
 v51:=Try.zeroValue129
 t146:=Try.underlying130
 a146:=Try.isAgg130
 z146:=Try.sizeOf130
 v146:=Try.zeroValue130
 g1:=by kernel_rfl
 i3:=by kernel_rfl
 i4:=by kernel_rfl
 i5:=by kernel_rfl
 i9:=by kernel_rfl
 i46:=by kernel_rfl
 i51:=by kernel_rfl
 i146:=by kernel_rfl
 m1:=by kernel_rfl
 s1_3:=fun w h=>Go.Proofs.cell_of_shapedOpen_int (zero:=#[.int .i64 0]) (t:=3) h (of_decide_eq_true (by kernel_rfl)) (by kernel_rfl) rfl (by kernel_rfl) (by kernel_rfl) Try.underlying3}
end Go.Proofs
namespace Go.Proofs.AmEnv
open Go Go.AM
theorem KY:∀f ks,A0.dlf f=zs ks->ET Try.prog f ks:=fun f ks h=>by cases (h:(zn:Option (List Nat))=zs ks)
theorem KZ:∀f k,A0.srt f k=zt->EU Try.prog f k:=fun f k h=>by cases (h:zf=zt)
theorem LB:(List.range 102).map fn=(List.range 102).map (vZ 566665531200283716091896 Try.prog):=by kernel_rfl
def SQ:AV->Bool
 |.int _ _ | .bool _ | .str _ | .nilptr | .nilsl | .nilfn | .niliface | .nilmap=>zt
 |_=>zf
noncomputable def WB(q:TI):Bool:=(match q.zero with | .agg cs=>cs.all SQ|x=>SQ x)&&Nat.beq q.zero.cells.length q.size
theorem zfS_fz{Z:Nat->Prop}{h:Heap}{x:AV}(e:SQ x=zt):Fz Z h x x:=by
 cases x<;>first|exact .int _ _|exact .bool _|exact .str _|exact .nilptr|exact .nilsl|exact .nilfn|exact .niliface|exact .nilmap|cases e
theorem EQ{x:AV}(e:SQ x=zt):AM.clo x=zt:=by
 cases x<;>first|rfl|cases e
theorem LC{q:TI}(e:WB q=zt):(∀Z h,Fz Z h q.zero q.zero)/\q.zero.cells.length=q.size:=by
 unfold WB at e;rw[Bool.and_eq_true]at e;refine⟨fun Z h=>?_,zqa e.2⟩;have e:=e.1;cases hz:q.zero with
 |agg cs=>
  rw[hz]at e;have e:cs.all SQ=zt:=e;rw[List.all_eq_true]at e;exact .agg rfl (fun i x y A B=>by rw[A]at B;cases B;exact zfS_fz (e x (List.mem_of_getElem? A))) (List.all_eq_true.2 fun x A=>EQ (e x A))
 |_=>rw[hz]at e;exact zfS_fz e
def SR(f:Nat)(o:Option Go.AM.FI):Prop:=∀x,o=zs x->f<102
theorem R6(t m:Nat){a b:Option Go.AM.FI}(ha:SR t a)(hb:SR t b):SR t (bif Nat.blt t m then a else b):=by cases Nat.blt t m<;>assumption
theorem R4{t m:Nat}{p:Go.AM.FI}(h:m<102):SR t (bif Nat.beq t m then zs p else zn):=by
 cases e:Nat.beq t m with
 |true=>rw[zqa e];exact fun _ _=>h
 |false=>intro x A;cases A
theorem SS(f:Nat):SR f (fn f):=(R6 f 40 (R6 f 21 (R6 f 12 (R6 f 7 (R6 f 5 (R6 f 4 (R4 (by decide)) (R4 (by decide))) (R6 f 6 (R4 (by decide)) (R4 (by decide)))) (R6 f 9 (R6 f 8 (R4 (by decide)) (R4 (by decide))) (R6 f 10 (R4 (by decide)) (R6 f 11 (R4 (by decide)) (R4 (by decide)))))) (R6 f 16 (R6 f 14 (R6 f 13 (R4 (by decide)) (R4 (by decide))) (R6 f 15 (R4 (by decide)) (R4 (by decide)))) (R6 f 18 (R6 f 17 (R4 (by decide)) (R4 (by decide))) (R6 f 19 (R4 (by decide)) (R6 f 20 (R4 (by decide)) (R4 (by decide))))))) (R6 f 30 (R6 f 25 (R6 f 23 (R6 f 22 (R4 (by decide)) (R4 (by decide))) (R6 f 24 (R4 (by decide)) (R4 (by decide)))) (R6 f 27 (R6 f 26 (R4 (by decide)) (R4 (by decide))) (R6 f 28 (R4 (by decide)) (R6 f 29 (R4 (by decide)) (R4 (by decide)))))) (R6 f 35 (R6 f 32 (R6 f 31 (R4 (by decide)) (R4 (by decide))) (R6 f 33 (R4 (by decide)) (R6 f 34 (R4 (by decide)) (R4 (by decide))))) (R6 f 37 (R6 f 36 (R4 (by decide)) (R4 (by decide))) (R6 f 38 (R4 (by decide)) (R6 f 39 (R4 (by decide)) (R4 (by decide)))))))) (R6 f 58 (R6 f 49 (R6 f 44 (R6 f 42 (R6 f 41 (R4 (by decide)) (R4 (by decide))) (R6 f 43 (R4 (by decide)) (R4 (by decide)))) (R6 f 46 (R6 f 45 (R4 (by decide)) (R4 (by decide))) (R6 f 47 (R4 (by decide)) (R6 f 48 (R4 (by decide)) (R4 (by decide)))))) (R6 f 53 (R6 f 51 (R6 f 50 (R4 (by decide)) (R4 (by decide))) (R6 f 52 (R4 (by decide)) (R4 (by decide)))) (R6 f 55 (R6 f 54 (R4 (by decide)) (R4 (by decide))) (R6 f 56 (R4 (by decide)) (R6 f 57 (R4 (by decide)) (R4 (by decide))))))) (R6 f 68 (R6 f 62 (R6 f 60 (R6 f 59 (R4 (by decide)) (R4 (by decide))) (R6 f 61 (R4 (by decide)) (R4 (by decide)))) (R6 f 65 (R6 f 63 (R4 (by decide)) (R4 (by decide))) (R6 f 66 (R4 (by decide)) (R6 f 67 (R4 (by decide)) (R4 (by decide)))))) (R6 f 73 (R6 f 70 (R6 f 69 (R4 (by decide)) (R4 (by decide))) (R6 f 71 (R4 (by decide)) (R6 f 72 (R4 (by decide)) (R4 (by decide))))) (R6 f 76 (R6 f 74 (R4 (by decide)) (R4 (by decide))) (R6 f 77 (R4 (by decide)) (R6 f 78 (R4 (by decide)) (R4 (by decide)))))))))
theorem ER(t:Nat)(h:102<=t):fn t=zn:=by
 cases e:fn t with
 |none=>rfl
 |some x=>exact absurd (SS t x e) (by omega)
def ST(t:Nat)(o:Option TI):Prop:=∀x,o=zs x->BR Try.prog t=zs x/\WB x=zt
theorem Aj(t m:Nat){a b:Option TI}(ha:ST t a)(hb:ST t b):ST t (bif Nat.blt t m then a else b):=by cases Nat.blt t m<;>assumption
theorem Ai{t m:Nat}{p:TI}(h:BR Try.prog m=zs p)(hz:WB p=zt):ST t (bif Nat.beq t m then zs p else zn):=by
 cases e:Nat.beq t m with
 |true=>rw[zqa e];intro x A;cases A;exact⟨h,hz⟩
 |false=>intro x A;cases A
theorem BF(t:Nat):ST t (ti t):=(Aj t 47 (Aj t 32 (Aj t 21 (Aj t 4 (Aj t 3 (Ai (by kernel_rfl) rfl) (Ai (by kernel_rfl) rfl)) (Aj t 9 (Ai (by kernel_rfl) rfl) (Aj t 20 (Ai (by kernel_rfl) rfl) (Ai (by kernel_rfl) rfl)))) (Aj t 25 (Aj t 22 (Ai (by kernel_rfl) rfl) (Aj t 23 (Ai (by kernel_rfl) rfl) (Ai (by kernel_rfl) rfl))) (Aj t 26 (Ai (by kernel_rfl) rfl) (Aj t 28 (Ai (by kernel_rfl) rfl) (Ai (by kernel_rfl) rfl))))) (Aj t 41 (Aj t 35 (Aj t 33 (Ai (by kernel_rfl) rfl) (Aj t 34 (Ai (by kernel_rfl) rfl) (Ai (by kernel_rfl) rfl))) (Aj t 37 (Ai (by kernel_rfl) rfl) (Aj t 38 (Ai (by kernel_rfl) rfl) (Ai (by kernel_rfl) rfl)))) (Aj t 44 (Aj t 42 (Ai (by kernel_rfl) rfl) (Aj t 43 (Ai (by kernel_rfl) rfl) (Ai (by kernel_rfl) rfl))) (Aj t 45 (Ai (by kernel_rfl) rfl) (Aj t 46 (Ai (by kernel_rfl) rfl) (Ai (by kernel_rfl) rfl)))))) (Aj t 76 (Aj t 63 (Aj t 60 (Aj t 48 (Ai (by kernel_rfl) rfl) (Aj t 50 (Ai (by kernel_rfl) rfl) (Ai (by kernel_rfl) rfl))) (Aj t 61 (Ai (by kernel_rfl) rfl) (Aj t 62 (Ai (by kernel_rfl) rfl) (Ai (by kernel_rfl) rfl)))) (Aj t 69 (Aj t 66 (Ai (by kernel_rfl) rfl) (Aj t 67 (Ai (by kernel_rfl) rfl) (Ai (by kernel_rfl) rfl))) (Aj t 71 (Ai (by kernel_rfl) rfl) (Aj t 73 (Ai (by kernel_rfl) rfl) (Ai (by kernel_rfl) rfl))))) (Aj t 105 (Aj t 92 (Aj t 78 (Ai (by kernel_rfl) rfl) (Aj t 80 (Ai (by kernel_rfl) rfl) (Ai (by kernel_rfl) rfl))) (Aj t 94 (Ai (by kernel_rfl) rfl) (Aj t 97 (Ai (by kernel_rfl) rfl) (Ai (by kernel_rfl) rfl)))) (Aj t 110 (Aj t 106 (Ai (by kernel_rfl) rfl) (Aj t 109 (Ai (by kernel_rfl) rfl) (Ai (by kernel_rfl) rfl))) (Aj t 124 (Ai (by kernel_rfl) rfl) (Aj t 125 (Ai (by kernel_rfl) rfl) (Ai (by kernel_rfl) rfl)))))))
theorem tip:KO A0:=fun t q e=>LC (BF t q e).2
theorem env_ok:EnvOk A0 Try.prog:=⟨fun t x h=>BT (BF t x h).1,fun f x A=>BV (wA (wB LB ER A)),(BW Go.Proofs.Try.laysM144 (fun f h=>C9 h) rfl),KY,KZ,by kernel_rfl⟩
def SU(f:Nat):Option PFn->Prop
 |none=>True
 |some p=>FnOk A0 f p
theorem R7(f m:Nat){a b:Option PFn}(ha:SU f a)(hb:SU f b):SU f (bif Nat.blt f m then a else b):=by cases Nat.blt f m<;>assumption
theorem R5{f m:Nat}{p:PFn}(h:FnOk A0 m p):SU f (bif Nat.beq f m then zs p else zn):=by
 cases e:Nat.beq f m with
 |true=>rw[zqa e];exact h
 |false=>trivial
theorem fo{p:Prop}(h:p:=by exact⟨rfl,rfl,rfl,fun _ _=>rfl,by kernel_rfl,by decide +kernel,by kernel_rfl⟩):p:=h
theorem LD(f:Nat):SU f (A2 f):=(R7 f 40 (R7 f 21 (R7 f 12 (R7 f 7 (R7 f 5 (R7 f 4 (R5 fo) (R5 fo)) (R7 f 6 (R5 fo) (R5 fo))) (R7 f 9 (R7 f 8 (R5 fo) (R5 fo)) (R7 f 10 (R5 fo) (R7 f 11 (R5 fo) (R5 fo))))) (R7 f 16 (R7 f 14 (R7 f 13 (R5 fo) (R5 fo)) (R7 f 15 (R5 fo) (R5 fo))) (R7 f 18 (R7 f 17 (R5 fo) (R5 fo)) (R7 f 19 (R5 fo) (R7 f 20 (R5 fo) (R5 fo)))))) (R7 f 30 (R7 f 25 (R7 f 23 (R7 f 22 (R5 fo) (R5 fo)) (R7 f 24 (R5 fo) (R5 fo))) (R7 f 27 (R7 f 26 (R5 fo) (R5 fo)) (R7 f 28 (R5 fo) (R7 f 29 (R5 fo) (R5 fo))))) (R7 f 35 (R7 f 32 (R7 f 31 (R5 fo) (R5 fo)) (R7 f 33 (R5 fo) (R7 f 34 (R5 fo) (R5 fo)))) (R7 f 37 (R7 f 36 (R5 fo) (R5 fo)) (R7 f 38 (R5 fo) (R7 f 39 (R5 fo) (R5 fo))))))) (R7 f 58 (R7 f 49 (R7 f 44 (R7 f 42 (R7 f 41 (R5 fo) (R5 fo)) (R7 f 43 (R5 fo) (R5 fo))) (R7 f 46 (R7 f 45 (R5 fo) (R5 fo)) (R7 f 47 (R5 fo) (R7 f 48 (R5 fo) (R5 fo))))) (R7 f 53 (R7 f 51 (R7 f 50 (R5 fo) (R5 fo)) (R7 f 52 (R5 fo) (R5 fo))) (R7 f 55 (R7 f 54 (R5 fo) (R5 fo)) (R7 f 56 (R5 fo) (R7 f 57 (R5 fo) (R5 fo)))))) (R7 f 68 (R7 f 62 (R7 f 60 (R7 f 59 (R5 fo) (R5 fo)) (R7 f 61 (R5 fo) (R5 fo))) (R7 f 65 (R7 f 63 (R5 fo) (R5 fo)) (R7 f 66 (R5 fo) (R7 f 67 (R5 fo) (R5 fo))))) (R7 f 73 (R7 f 70 (R7 f 69 (R5 fo) (R5 fo)) (R7 f 71 (R5 fo) (R7 f 72 (R5 fo) (R5 fo)))) (R7 f 76 (R7 f 74 (R5 fo) (R5 fo)) (R7 f 77 (R5 fo) (R7 f 78 (R5 fo) (R5 fo))))))))
theorem A2W(f:Nat)(p:PFn)(e:A2 f=zs p):FnOk A0 f p:=by
 have:=LD f
 rw[e]at this;exact this
theorem pe_ok:PEok ⟨A0,T0,A2⟩:=⟨(fun g v e=>by cases (e:(zn:Option AV)=zs v)),tip,(fun f g e=>by cases (e:(zn:Option (List AV->Option (List AV)))=zs g)),A2W⟩
end Go.Proofs.AmEnv
