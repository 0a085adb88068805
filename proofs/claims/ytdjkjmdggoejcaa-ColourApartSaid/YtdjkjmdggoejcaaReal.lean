/- The tables are this program's. Conditions: none. -/
import Derived.Test.YtdjkjmdggoejcaaGenB
import Derived.KernelRfl
import Derived.Shelf.Strings.Shaped
import Derived.Test.YtdjkjmdggoejcaaProg
set_option linter.unusedVariables false
set_option linter.unusedSimpArgs false
set_option linter.unusedSectionVars false
set_option linter.defProp false
set_option maxRecDepth 100000
set_option maxHeartbeats 4000000
open List renaming length→lz
open Option renaming some→zs,none→zn
open Bool renaming true→zt,false→zf
open Nat renaming eq_of_beq_eq_true→zqa
namespace Go.Proofs
open Go.Shelf
def Try.laysM144_ren:Go.Shelf.Ren:=⟨fun|144=>73|143=>83|219=>90|217=>94|225=>95|224=>96|267=>97|266=>98|314=>99|n=>n,fun|9=>9|4=>4|3=>3|5=>5|46=>140|146=>145|51=>144|n=>n,fun|1=>0|n=>n⟩
theorem Try.laysM144:Go.Proofs.LaysM.n144 Try.prog Try.laysM144_ren:={
 mixed:=by kernel_rfl
 f143:=Try.func83.trans (congrArg zs (by kernel_rfl))
 f144:=Try.func73.trans (congrArg zs (by kernel_rfl))
 f217:=Try.func94.trans (congrArg zs (by kernel_rfl))
 f219:=Try.func90.trans (congrArg zs (by kernel_rfl))
 f224:=Try.func96.trans (congrArg zs (by kernel_rfl))
 f225:=Try.func95.trans (congrArg zs (by kernel_rfl))
 f266:=Try.func98.trans (congrArg zs (by kernel_rfl))
 f267:=Try.func97.trans (congrArg zs (by kernel_rfl))
 f314:=Try.func99.trans (congrArg zs (by kernel_rfl))
 t3:=Try.underlying3
 a3:=Try.isAgg3
 z3:=Try.sizeOf3
 v3:=Try.zeroValue3
 t4:=Try.underlying4
 a4:=Try.isAgg4
 z4:=Try.sizeOf4
 v4:=Try.zeroValue4
 t5:=Try.underlying5
 a5:=Try.isAgg5
 z5:=Try.sizeOf5
 v5:=Try.zeroValue5
 t9:=Try.underlying9
 a9:=Try.isAgg9
 z9:=Try.sizeOf9
 v9:=Try.zeroValue9
 t46:=Try.underlying140
 a46:=Try.isAgg140
 z46:=Try.sizeOf140
 v46:=Try.zeroValue140
 t51:=Try.underlying144
 a51:=Try.isAgg144
 z51:=Try.sizeOf144
 v51:=Try.zeroValue144
 t146:=Try.underlying145
 a146:=Try.isAgg145
 z146:=Try.sizeOf145
 v146:=Try.zeroValue145
 g1:=by kernel_rfl
 i3:=by kernel_rfl
 i4:=by kernel_rfl
 i5:=by kernel_rfl
 i9:=by kernel_rfl
 i46:=by kernel_rfl
 i51:=by kernel_rfl
 i146:=by kernel_rfl
 m1:=by kernel_rfl
 s1_3:=fun w h=>Go.Proofs.cell_of_shapedOpen_int (zero:=#[.int .i64 0]) (t:=3) h (of_decide_eq_true (by kernel_rfl)) (by kernel_rfl) rfl (by kernel_rfl) (by kernel_rfl) Try.underlying3}
end Go.Proofs
namespace Go.Proofs.AmEnv
open Go Go.AM
theorem GO:∀f ks,A0.dlf f=zs ks->zK Try.prog f ks:=fun f ks h=>by cases (h:(zn:Option (List Nat))=zs ks)
theorem GP:∀f k,A0.srt f k=zt->zL Try.prog f k:=fun f k h=>by cases (h:zf=zt)
theorem GQ:(List.range 116).map fn=(List.range 116).map (rT 16043040349261022340176646120 Try.prog):=by kernel_rfl
def NM:AV->Bool
 |.int _ _ | .bool _ | .str _ | .x0c | .x0a | .x0e | .x0b | .x0d=>zt
 |_=>zf
noncomputable def QG(q:TI):Bool:=(match q.zero with | .agg cs=>cs.all NM|x=>NM x)&&Nat.beq (lz q.zero.cells) q.size
theorem xd{Z:Nat->Prop}{h:Vg}{x:AV}(e:NM x=zt):Fz Z h x x:=by
 cases x<;>first|exact .int _ _|exact .bool _|exact .str _|exact .x0c|exact .x0a|exact .x0e|exact .x0b|exact .x0d|cases e
theorem zH{x:AV}(e:NM x=zt):AM.clo x=zt:=by
 cases x<;>first|rfl|cases e
theorem GR{q:TI}(e:QG q=zt):(∀Z h,Fz Z h q.zero q.zero)/\lz q.zero.cells=q.size:=by
 unfold QG at e;rw[Bool.and_eq_true]at e;refine⟨fun Z h=>?_,zqa e.2⟩;have e:=e.1;cases hz:q.zero with
 |agg cs=>
  rw[hz]at e;have e:cs.all NM=zt:=e;rw[List.all_eq_true]at e;exact .agg rfl (fun i x y B C=>by rw[B]at C;cases C;exact xd (e x (List.mem_of_getElem? B))) (List.all_eq_true.2 fun x B=>zH (e x B))
 |_=>rw[hz]at e;exact xd e
def NN(f:Nat)(o:Option Go.AM.FI):Prop:=∀x,o=zs x->f<116
theorem Q9(t m:Nat){a b:Option Go.AM.FI}(ha:NN t a)(hb:NN t b):NN t (bif Nat.blt t m then a else b):=by cases Nat.blt t m<;>assumption
theorem Q5{t m:Nat}{p:Go.AM.FI}(h:m<116):NN t (bif Nat.beq t m then zs p else zn):=by
 cases e:Nat.beq t m with
 |true=>rw[zqa e];exact fun _ _=>h
 |false=>intro x B;cases B
theorem NO(f:Nat):NN f (fn f):=(Q9 f 46 (Q9 f 26 (Q9 f 16 (Q9 f 8 (Q9 f 6 (Q9 f 5 (Q5 (by decide)) (Q5 (by decide))) (Q9 f 7 (Q5 (by decide)) (Q5 (by decide)))) (Q9 f 10 (Q9 f 9 (Q5 (by decide)) (Q5 (by decide))) (Q9 f 11 (Q5 (by decide)) (Q9 f 15 (Q5 (by decide)) (Q5 (by decide)))))) (Q9 f 21 (Q9 f 18 (Q9 f 17 (Q5 (by decide)) (Q5 (by decide))) (Q9 f 19 (Q5 (by decide)) (Q9 f 20 (Q5 (by decide)) (Q5 (by decide))))) (Q9 f 23 (Q9 f 22 (Q5 (by decide)) (Q5 (by decide))) (Q9 f 24 (Q5 (by decide)) (Q9 f 25 (Q5 (by decide)) (Q5 (by decide))))))) (Q9 f 36 (Q9 f 30 (Q9 f 28 (Q9 f 27 (Q5 (by decide)) (Q5 (by decide))) (Q9 f 29 (Q5 (by decide)) (Q5 (by decide)))) (Q9 f 32 (Q9 f 31 (Q5 (by decide)) (Q5 (by decide))) (Q9 f 34 (Q5 (by decide)) (Q9 f 35 (Q5 (by decide)) (Q5 (by decide)))))) (Q9 f 41 (Q9 f 38 (Q9 f 37 (Q5 (by decide)) (Q5 (by decide))) (Q9 f 39 (Q5 (by decide)) (Q9 f 40 (Q5 (by decide)) (Q5 (by decide))))) (Q9 f 43 (Q9 f 42 (Q5 (by decide)) (Q5 (by decide))) (Q9 f 44 (Q5 (by decide)) (Q9 f 45 (Q5 (by decide)) (Q5 (by decide)))))))) (Q9 f 67 (Q9 f 57 (Q9 f 50 (Q9 f 48 (Q9 f 47 (Q5 (by decide)) (Q5 (by decide))) (Q9 f 49 (Q5 (by decide)) (Q5 (by decide)))) (Q9 f 52 (Q9 f 51 (Q5 (by decide)) (Q5 (by decide))) (Q9 f 53 (Q5 (by decide)) (Q9 f 56 (Q5 (by decide)) (Q5 (by decide)))))) (Q9 f 62 (Q9 f 59 (Q9 f 58 (Q5 (by decide)) (Q5 (by decide))) (Q9 f 60 (Q5 (by decide)) (Q9 f 61 (Q5 (by decide)) (Q5 (by decide))))) (Q9 f 64 (Q9 f 63 (Q5 (by decide)) (Q5 (by decide))) (Q9 f 65 (Q5 (by decide)) (Q9 f 66 (Q5 (by decide)) (Q5 (by decide))))))) (Q9 f 78 (Q9 f 72 (Q9 f 70 (Q9 f 69 (Q5 (by decide)) (Q5 (by decide))) (Q9 f 71 (Q5 (by decide)) (Q5 (by decide)))) (Q9 f 75 (Q9 f 74 (Q5 (by decide)) (Q5 (by decide))) (Q9 f 76 (Q5 (by decide)) (Q9 f 77 (Q5 (by decide)) (Q5 (by decide)))))) (Q9 f 87 (Q9 f 82 (Q9 f 81 (Q5 (by decide)) (Q5 (by decide))) (Q9 f 84 (Q5 (by decide)) (Q9 f 86 (Q5 (by decide)) (Q5 (by decide))))) (Q9 f 89 (Q9 f 88 (Q5 (by decide)) (Q5 (by decide))) (Q9 f 92 (Q5 (by decide)) (Q9 f 93 (Q5 (by decide)) (Q5 (by decide)))))))))
theorem zI(t:Nat)(h:116<=t):fn t=zn:=by
 cases e:fn t with
 |none=>rfl
 |some x=>exact absurd (NO t x e) (by omega)
def NP(t:Nat)(o:Option TI):Prop:=∀x,o=zs x->wZ Try.prog t=zs x/\QG x=zt
theorem s9(t m:Nat){a b:Option TI}(ha:NP t a)(hb:NP t b):NP t (bif Nat.blt t m then a else b):=by cases Nat.blt t m<;>assumption
theorem r6{t m:Nat}{p:TI}(h:wZ Try.prog m=zs p)(hz:QG p=zt):NP t (bif Nat.beq t m then zs p else zn):=by
 cases e:Nat.beq t m with
 |true=>rw[zqa e];intro x B;cases B;exact⟨h,hz⟩
 |false=>intro x B;cases B
theorem wL(t:Nat):NP t (ti t):=(s9 t 60 (s9 t 33 (s9 t 22 (s9 t 9 (s9 t 3 (r6 (by kernel_rfl) rfl) (s9 t 4 (r6 (by kernel_rfl) rfl) (r6 (by kernel_rfl) rfl))) (s9 t 20 (r6 (by kernel_rfl) rfl) (s9 t 21 (r6 (by kernel_rfl) rfl) (r6 (by kernel_rfl) rfl)))) (s9 t 27 (s9 t 23 (r6 (by kernel_rfl) rfl) (s9 t 25 (r6 (by kernel_rfl) rfl) (r6 (by kernel_rfl) rfl))) (s9 t 31 (s9 t 30 (r6 (by kernel_rfl) rfl) (r6 (by kernel_rfl) rfl)) (s9 t 32 (r6 (by kernel_rfl) rfl) (r6 (by kernel_rfl) rfl))))) (s9 t 45 (s9 t 38 (s9 t 36 (r6 (by kernel_rfl) rfl) (s9 t 37 (r6 (by kernel_rfl) rfl) (r6 (by kernel_rfl) rfl))) (s9 t 42 (r6 (by kernel_rfl) rfl) (s9 t 43 (r6 (by kernel_rfl) rfl) (r6 (by kernel_rfl) rfl)))) (s9 t 50 (s9 t 46 (r6 (by kernel_rfl) rfl) (s9 t 47 (r6 (by kernel_rfl) rfl) (r6 (by kernel_rfl) rfl))) (s9 t 53 (s9 t 51 (r6 (by kernel_rfl) rfl) (r6 (by kernel_rfl) rfl)) (s9 t 58 (r6 (by kernel_rfl) rfl) (r6 (by kernel_rfl) rfl)))))) (s9 t 85 (s9 t 70 (s9 t 65 (s9 t 61 (r6 (by kernel_rfl) rfl) (s9 t 62 (r6 (by kernel_rfl) rfl) (r6 (by kernel_rfl) rfl))) (s9 t 67 (r6 (by kernel_rfl) rfl) (s9 t 69 (r6 (by kernel_rfl) rfl) (r6 (by kernel_rfl) rfl)))) (s9 t 76 (s9 t 72 (r6 (by kernel_rfl) rfl) (s9 t 74 (r6 (by kernel_rfl) rfl) (r6 (by kernel_rfl) rfl))) (s9 t 82 (s9 t 81 (r6 (by kernel_rfl) rfl) (r6 (by kernel_rfl) rfl)) (s9 t 83 (r6 (by kernel_rfl) rfl) (r6 (by kernel_rfl) rfl))))) (s9 t 105 (s9 t 94 (s9 t 87 (r6 (by kernel_rfl) rfl) (s9 t 93 (r6 (by kernel_rfl) rfl) (r6 (by kernel_rfl) rfl))) (s9 t 96 (r6 (by kernel_rfl) rfl) (s9 t 97 (r6 (by kernel_rfl) rfl) (r6 (by kernel_rfl) rfl)))) (s9 t 114 (s9 t 109 (r6 (by kernel_rfl) rfl) (s9 t 110 (r6 (by kernel_rfl) rfl) (r6 (by kernel_rfl) rfl))) (s9 t 130 (s9 t 124 (r6 (by kernel_rfl) rfl) (r6 (by kernel_rfl) rfl)) (s9 t 140 (r6 (by kernel_rfl) rfl) (r6 (by kernel_rfl) rfl)))))))
theorem tip:GE A0:=fun t q e=>GR (wL t q e).2
theorem e0u:dn A0 Try.prog:=⟨fun t x h=>xB (wL t x h).1,fun f x B=>xD (rU (rV GQ zI B)),(xE Go.Proofs.Try.laysM144 (fun f h=>D8 h) rfl),GO,GP,by kernel_rfl⟩
def NQ(f:Nat):Option PFn->Prop
 |none=>True
 |some p=>e0z A0 f p
theorem R0(f m:Nat){a b:Option PFn}(ha:NQ f a)(hb:NQ f b):NQ f (bif Nat.blt f m then a else b):=by cases Nat.blt f m<;>assumption
theorem Q6{f m:Nat}{p:PFn}(h:e0z A0 m p):NQ f (bif Nat.beq f m then zs p else zn):=by
 cases e:Nat.beq f m with
 |true=>rw[zqa e];exact h
 |false=>trivial
theorem fo{p:Prop}(h:p:=by exact⟨rfl,rfl,rfl,fun _ _=>rfl,by kernel_rfl,by decide +kernel,by kernel_rfl⟩):p:=h
theorem GS(f:Nat):NQ f (A2 f):=(R0 f 46 (R0 f 26 (R0 f 16 (R0 f 8 (R0 f 6 (R0 f 5 (Q6 fo) (Q6 fo)) (R0 f 7 (Q6 fo) (Q6 fo))) (R0 f 10 (R0 f 9 (Q6 fo) (Q6 fo)) (R0 f 11 (Q6 fo) (R0 f 15 (Q6 fo) (Q6 fo))))) (R0 f 21 (R0 f 18 (R0 f 17 (Q6 fo) (Q6 fo)) (R0 f 19 (Q6 fo) (R0 f 20 (Q6 fo) (Q6 fo)))) (R0 f 23 (R0 f 22 (Q6 fo) (Q6 fo)) (R0 f 24 (Q6 fo) (R0 f 25 (Q6 fo) (Q6 fo)))))) (R0 f 36 (R0 f 30 (R0 f 28 (R0 f 27 (Q6 fo) (Q6 fo)) (R0 f 29 (Q6 fo) (Q6 fo))) (R0 f 32 (R0 f 31 (Q6 fo) (Q6 fo)) (R0 f 34 (Q6 fo) (R0 f 35 (Q6 fo) (Q6 fo))))) (R0 f 41 (R0 f 38 (R0 f 37 (Q6 fo) (Q6 fo)) (R0 f 39 (Q6 fo) (R0 f 40 (Q6 fo) (Q6 fo)))) (R0 f 43 (R0 f 42 (Q6 fo) (Q6 fo)) (R0 f 44 (Q6 fo) (R0 f 45 (Q6 fo) (Q6 fo))))))) (R0 f 67 (R0 f 57 (R0 f 50 (R0 f 48 (R0 f 47 (Q6 fo) (Q6 fo)) (R0 f 49 (Q6 fo) (Q6 fo))) (R0 f 52 (R0 f 51 (Q6 fo) (Q6 fo)) (R0 f 53 (Q6 fo) (R0 f 56 (Q6 fo) (Q6 fo))))) (R0 f 62 (R0 f 59 (R0 f 58 (Q6 fo) (Q6 fo)) (R0 f 60 (Q6 fo) (R0 f 61 (Q6 fo) (Q6 fo)))) (R0 f 64 (R0 f 63 (Q6 fo) (Q6 fo)) (R0 f 65 (Q6 fo) (R0 f 66 (Q6 fo) (Q6 fo)))))) (R0 f 78 (R0 f 72 (R0 f 70 (R0 f 69 (Q6 fo) (Q6 fo)) (R0 f 71 (Q6 fo) (Q6 fo))) (R0 f 75 (R0 f 74 (Q6 fo) (Q6 fo)) (R0 f 76 (Q6 fo) (R0 f 77 (Q6 fo) (Q6 fo))))) (R0 f 87 (R0 f 82 (R0 f 81 (Q6 fo) (Q6 fo)) (R0 f 84 (Q6 fo) (R0 f 86 (Q6 fo) (Q6 fo)))) (R0 f 89 (R0 f 88 (Q6 fo) (Q6 fo)) (R0 f 92 (Q6 fo) (R0 f 93 (Q6 fo) (Q6 fo))))))))
theorem A0M(f:Nat)(p:PFn)(e:A2 f=zs p):e0z A0 f p:=by
 have:=GS f
 rw[e]at this;exact this
theorem g0a:ep ⟨A0,T0,A2⟩:=⟨(fun g v e=>by cases (e:(zn:Option AV)=zs v)),tip,(fun f g e=>by cases (e:(zn:Option (List AV->Option (List AV)))=zs g)),A0M⟩
end Go.Proofs.AmEnv
