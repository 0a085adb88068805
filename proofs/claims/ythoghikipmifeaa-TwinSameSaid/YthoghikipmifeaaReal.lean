/- The tables are this program's. Conditions: none. -/
import Derived.Test.YthoghikipmifeaaGenC
import Derived.KernelRfl
import Derived.Shelf.Strings.Shaped
import Derived.Test.YthoghikipmifeaaProg
set_option linter.unusedVariables false
set_option linter.unusedSimpArgs false
set_option linter.unusedSectionVars false
set_option linter.defProp false
set_option maxRecDepth 100000
set_option maxHeartbeats 4000000
open Nat renaming eq_of_beq_eq_true→zqa
namespace Go.Proofs
open Go.Shelf
def Try.laysM144_ren:Go.Shelf.Ren:=⟨fun|144=>63|143=>78|219=>87|217=>92|225=>93|224=>94|267=>95|266=>96|314=>97|n=>n,fun|9=>9|4=>4|3=>3|5=>5|46=>126|146=>132|51=>131|n=>n,fun|1=>0|n=>n⟩
theorem Try.laysM144:Go.Proofs.LaysM.n144 Try.prog Try.laysM144_ren:={
 mixed:=by kernel_rfl
 f143:=Try.func78.trans (congrArg some (by kernel_rfl))
 f144:=Try.func63.trans (congrArg some (by kernel_rfl))
 f217:=Try.func92.trans (congrArg some (by kernel_rfl))
 f219:=Try.func87.trans (congrArg some (by kernel_rfl))
 f224:=Try.func94.trans (congrArg some (by kernel_rfl))
 f225:=Try.func93.trans (congrArg some (by kernel_rfl))
 f266:=Try.func96.trans (congrArg some (by kernel_rfl))
 f267:=Try.func95.trans (congrArg some (by kernel_rfl))
 f314:=Try.func97.trans (congrArg some (by kernel_rfl))
 t3:=Try.underlying3
 a3:=Try.isAgg3
 z3:=Try.sizeOf3
 v3:=Try.zeroValue3
 t4:=Try.underlying4
 a4:=Try.isAgg4
 z4:=Try.sizeOf4
 v4:=Try.zeroValue4
 t5:=Try.underlying5
 a5:=Try.isAgg5
 z5:=Try.sizeOf5
 v5:=Try.zeroValue5
 t9:=Try.underlying9
 a9:=Try.isAgg9
 z9:=Try.sizeOf9
 v9:=Try.zeroValue9
 t46:=Try.underlying126
 a46:=Try.isAgg126
 z46:=Try.sizeOf126
 v46:=Try.zeroValue126
 t51:=Try.underlying131
 a51:=Try.isAgg131
 z51:=Try.sizeOf131
 v51:=Try.zeroValue131
 t146:=Try.underlying132
 a146:=Try.isAgg132
 z146:=Try.sizeOf132
 v146:=Try.zeroValue132
 g1:=by kernel_rfl
 i3:=by kernel_rfl
 i4:=by kernel_rfl
 i5:=by kernel_rfl
 i9:=by kernel_rfl
 i46:=by kernel_rfl
 i51:=by kernel_rfl
 i146:=by kernel_rfl
 m1:=by kernel_rfl
 s1_3:=fun w h=>Go.Proofs.cell_of_shapedOpen_int (zero:=#[.int .i64 0]) (t:=3) h (of_decide_eq_true (by kernel_rfl)) (by kernel_rfl) rfl (by kernel_rfl) (by kernel_rfl) Try.underlying3}
end Go.Proofs
namespace Go.Proofs.AmEnv
open Go Go.AM
theorem FX:∀f ks,A0.dlf f=some ks->AG Try.prog f ks:=fun f ks h=>by cases (h:(none:Option (List Nat))=some ks)
theorem FY:∀f k,A0.srt f k=true->AH Try.prog f k:=fun f k h=>by cases (h:false=true)
theorem FZ:(List.range 114).map fn=(List.range 114).map (sD 4796715411552572596203535584 Try.prog):=by kernel_rfl
def NC:AV->Bool
 | .int _ _ | .bool _ | .str _ | .nilptr | .nilsl | .nilfn | .niliface | .nilmap=>true
 |_=>false
noncomputable def QX(q:TI):Bool:=(match q.zero with | .agg cs=>cs.all NC|x=>NC x)&&Nat.beq q.zero.cells.length q.size
theorem zfS_fz{Z:Nat->Prop}{h:Heap}{x:AV}(e:NC x=true):Fz Z h x x:=by
 cases x<;>first|exact .int _ _|exact .bool _|exact .str _|exact .nilptr|exact .nilsl|exact .nilfn|exact .niliface|exact .nilmap|cases e
theorem AE{x:AV}(e:NC x=true):AM.clo x=true:=by
 cases x<;>first|rfl|cases e
theorem GA{q:TI}(e:QX q=true):(∀Z h,Fz Z h q.zero q.zero)/\q.zero.cells.length=q.size:=by
 unfold QX at e;rw[Bool.and_eq_true]at e;refine⟨fun Z h=>?_,zqa e.2⟩;have e:=e.1;cases hz:q.zero with
 | agg cs =>
  rw[hz]at e;have e:cs.all NC=true:=e;rw[List.all_eq_true]at e;exact .agg rfl (fun i x y hx hy=>by rw[hx]at hy;cases hy;exact zfS_fz (e x (List.mem_of_getElem? hx))) (List.all_eq_true.2 fun x hx=>AE (e x hx))
 |_=>rw[hz]at e;exact zfS_fz e
def ND(f:Nat)(o:Option Go.AM.FI):Prop:=∀x,o=some x->f<114
theorem N8(t m:Nat){a b:Option Go.AM.FI}(ha:ND t a)(hb:ND t b):ND t (bif Nat.blt t m then a else b):=by cases Nat.blt t m<;>assumption
theorem N6{t m:Nat}{p:Go.AM.FI}(h:m<114):ND t (bif Nat.beq t m then some p else none):=by
 cases e:Nat.beq t m with
 |true=>rw[zqa e];exact fun _ _=>h
 |false=>intro x hx;cases hx
theorem NE(f:Nat):ND f (fn f):=(N8 f 49 (N8 f 28 (N8 f 17 (N8 f 11 (N8 f 7 (N8 f 6 (N6 (by decide)) (N6 (by decide))) (N8 f 10 (N6 (by decide)) (N6 (by decide)))) (N8 f 13 (N8 f 12 (N6 (by decide)) (N6 (by decide))) (N8 f 15 (N6 (by decide)) (N8 f 16 (N6 (by decide)) (N6 (by decide)))))) (N8 f 23 (N8 f 19 (N8 f 18 (N6 (by decide)) (N6 (by decide))) (N8 f 20 (N6 (by decide)) (N8 f 21 (N6 (by decide)) (N6 (by decide))))) (N8 f 25 (N8 f 24 (N6 (by decide)) (N6 (by decide))) (N8 f 26 (N6 (by decide)) (N8 f 27 (N6 (by decide)) (N6 (by decide))))))) (N8 f 39 (N8 f 33 (N8 f 30 (N8 f 29 (N6 (by decide)) (N6 (by decide))) (N8 f 31 (N6 (by decide)) (N8 f 32 (N6 (by decide)) (N6 (by decide))))) (N8 f 35 (N8 f 34 (N6 (by decide)) (N6 (by decide))) (N8 f 36 (N6 (by decide)) (N8 f 37 (N6 (by decide)) (N6 (by decide)))))) (N8 f 44 (N8 f 41 (N8 f 40 (N6 (by decide)) (N6 (by decide))) (N8 f 42 (N6 (by decide)) (N8 f 43 (N6 (by decide)) (N6 (by decide))))) (N8 f 46 (N8 f 45 (N6 (by decide)) (N6 (by decide))) (N8 f 47 (N6 (by decide)) (N8 f 48 (N6 (by decide)) (N6 (by decide)))))))) (N8 f 70 (N8 f 59 (N8 f 54 (N8 f 51 (N8 f 50 (N6 (by decide)) (N6 (by decide))) (N8 f 52 (N6 (by decide)) (N8 f 53 (N6 (by decide)) (N6 (by decide))))) (N8 f 56 (N8 f 55 (N6 (by decide)) (N6 (by decide))) (N8 f 57 (N6 (by decide)) (N8 f 58 (N6 (by decide)) (N6 (by decide)))))) (N8 f 65 (N8 f 61 (N8 f 60 (N6 (by decide)) (N6 (by decide))) (N8 f 62 (N6 (by decide)) (N8 f 64 (N6 (by decide)) (N6 (by decide))))) (N8 f 67 (N8 f 66 (N6 (by decide)) (N6 (by decide))) (N8 f 68 (N6 (by decide)) (N8 f 69 (N6 (by decide)) (N6 (by decide))))))) (N8 f 81 (N8 f 75 (N8 f 72 (N8 f 71 (N6 (by decide)) (N6 (by decide))) (N8 f 73 (N6 (by decide)) (N8 f 74 (N6 (by decide)) (N6 (by decide))))) (N8 f 77 (N8 f 76 (N6 (by decide)) (N6 (by decide))) (N8 f 79 (N6 (by decide)) (N8 f 80 (N6 (by decide)) (N6 (by decide)))))) (N8 f 86 (N8 f 83 (N8 f 82 (N6 (by decide)) (N6 (by decide))) (N8 f 84 (N6 (by decide)) (N8 f 85 (N6 (by decide)) (N6 (by decide))))) (N8 f 89 (N8 f 88 (N6 (by decide)) (N6 (by decide))) (N8 f 90 (N6 (by decide)) (N8 f 91 (N6 (by decide)) (N6 (by decide)))))))))
theorem AF(t:Nat)(h:114<=t):fn t=none:=by
 cases e:fn t with
 |none=>rfl
 |some x=>exact absurd (NE t x e) (by omega)
def NF(t:Nat)(o:Option TI):Prop:=∀x,o=some x->xM Try.prog t=some x/\QX x=true
theorem u7(t m:Nat){a b:Option TI}(ha:NF t a)(hb:NF t b):NF t (bif Nat.blt t m then a else b):=by cases Nat.blt t m<;>assumption
theorem u6{t m:Nat}{p:TI}(h:xM Try.prog m=some p)(hz:QX p=true):NF t (bif Nat.beq t m then some p else none):=by
 cases e:Nat.beq t m with
 |true=>rw[zqa e];intro x hx;cases hx;exact⟨h,hz⟩
 |false=>intro x hx;cases hx
theorem xA(t:Nat):NF t (ti t):=(u7 t 52 (u7 t 32 (u7 t 21 (u7 t 4 (u7 t 3 (u6 (by kernel_rfl) rfl) (u6 (by kernel_rfl) rfl)) (u7 t 9 (u6 (by kernel_rfl) rfl) (u7 t 20 (u6 (by kernel_rfl) rfl) (u6 (by kernel_rfl) rfl)))) (u7 t 25 (u7 t 22 (u6 (by kernel_rfl) rfl) (u7 t 23 (u6 (by kernel_rfl) rfl) (u6 (by kernel_rfl) rfl))) (u7 t 26 (u6 (by kernel_rfl) rfl) (u7 t 30 (u6 (by kernel_rfl) rfl) (u6 (by kernel_rfl) rfl))))) (u7 t 43 (u7 t 37 (u7 t 33 (u6 (by kernel_rfl) rfl) (u7 t 35 (u6 (by kernel_rfl) rfl) (u6 (by kernel_rfl) rfl))) (u7 t 38 (u6 (by kernel_rfl) rfl) (u7 t 42 (u6 (by kernel_rfl) rfl) (u6 (by kernel_rfl) rfl)))) (u7 t 47 (u7 t 45 (u6 (by kernel_rfl) rfl) (u7 t 46 (u6 (by kernel_rfl) rfl) (u6 (by kernel_rfl) rfl))) (u7 t 49 (u6 (by kernel_rfl) rfl) (u7 t 50 (u6 (by kernel_rfl) rfl) (u6 (by kernel_rfl) rfl)))))) (u7 t 80 (u7 t 61 (u7 t 57 (u7 t 54 (u6 (by kernel_rfl) rfl) (u7 t 56 (u6 (by kernel_rfl) rfl) (u6 (by kernel_rfl) rfl))) (u7 t 59 (u6 (by kernel_rfl) rfl) (u7 t 60 (u6 (by kernel_rfl) rfl) (u6 (by kernel_rfl) rfl)))) (u7 t 64 (u7 t 62 (u6 (by kernel_rfl) rfl) (u7 t 63 (u6 (by kernel_rfl) rfl) (u6 (by kernel_rfl) rfl))) (u7 t 66 (u6 (by kernel_rfl) rfl) (u7 t 68 (u6 (by kernel_rfl) rfl) (u6 (by kernel_rfl) rfl))))) (u7 t 110 (u7 t 97 (u7 t 88 (u6 (by kernel_rfl) rfl) (u7 t 94 (u6 (by kernel_rfl) rfl) (u6 (by kernel_rfl) rfl))) (u7 t 105 (u6 (by kernel_rfl) rfl) (u7 t 109 (u6 (by kernel_rfl) rfl) (u6 (by kernel_rfl) rfl)))) (u7 t 117 (u7 t 113 (u6 (by kernel_rfl) rfl) (u7 t 116 (u6 (by kernel_rfl) rfl) (u6 (by kernel_rfl) rfl))) (u7 t 124 (u6 (by kernel_rfl) rfl) (u7 t 126 (u6 (by kernel_rfl) rfl) (u6 (by kernel_rfl) rfl)))))))
theorem tip:FL A0:=fun t q e=>GA (xA t q e).2
theorem env_ok:EnvOk A0 Try.prog:=⟨fun t x h=>xO (xA t x h).1,fun f x hx=>xQ (sE (sF FZ AF hx)),(xR Go.Proofs.Try.laysM144 (fun f h=>D4 h) rfl),FX,FY,by kernel_rfl⟩
def NG(f:Nat):Option PFn->Prop
 |none=>True
 |some p=>FnOk A0 f p
theorem N9(f m:Nat){a b:Option PFn}(ha:NG f a)(hb:NG f b):NG f (bif Nat.blt f m then a else b):=by cases Nat.blt f m<;>assumption
theorem N7{f m:Nat}{p:PFn}(h:FnOk A0 m p):NG f (bif Nat.beq f m then some p else none):=by
 cases e:Nat.beq f m with
 |true=>rw[zqa e];exact h
 |false=>trivial
theorem fo{p:Prop}(h:p:=by exact⟨rfl,rfl,rfl,fun _ _=>rfl,by kernel_rfl,by decide +kernel,by kernel_rfl⟩):p:=h
theorem GB(f:Nat):NG f (A1 f):=(N9 f 49 (N9 f 28 (N9 f 17 (N9 f 11 (N9 f 7 (N9 f 6 (N7 fo) (N7 fo)) (N9 f 10 (N7 fo) (N7 fo))) (N9 f 13 (N9 f 12 (N7 fo) (N7 fo)) (N9 f 15 (N7 fo) (N9 f 16 (N7 fo) (N7 fo))))) (N9 f 23 (N9 f 19 (N9 f 18 (N7 fo) (N7 fo)) (N9 f 20 (N7 fo) (N9 f 21 (N7 fo) (N7 fo)))) (N9 f 25 (N9 f 24 (N7 fo) (N7 fo)) (N9 f 26 (N7 fo) (N9 f 27 (N7 fo) (N7 fo)))))) (N9 f 39 (N9 f 33 (N9 f 30 (N9 f 29 (N7 fo) (N7 fo)) (N9 f 31 (N7 fo) (N9 f 32 (N7 fo) (N7 fo)))) (N9 f 35 (N9 f 34 (N7 fo) (N7 fo)) (N9 f 36 (N7 fo) (N9 f 37 (N7 fo) (N7 fo))))) (N9 f 44 (N9 f 41 (N9 f 40 (N7 fo) (N7 fo)) (N9 f 42 (N7 fo) (N9 f 43 (N7 fo) (N7 fo)))) (N9 f 46 (N9 f 45 (N7 fo) (N7 fo)) (N9 f 47 (N7 fo) (N9 f 48 (N7 fo) (N7 fo))))))) (N9 f 70 (N9 f 59 (N9 f 54 (N9 f 51 (N9 f 50 (N7 fo) (N7 fo)) (N9 f 52 (N7 fo) (N9 f 53 (N7 fo) (N7 fo)))) (N9 f 56 (N9 f 55 (N7 fo) (N7 fo)) (N9 f 57 (N7 fo) (N9 f 58 (N7 fo) (N7 fo))))) (N9 f 65 (N9 f 61 (N9 f 60 (N7 fo) (N7 fo)) (N9 f 62 (N7 fo) (N9 f 64 (N7 fo) (N7 fo)))) (N9 f 67 (N9 f 66 (N7 fo) (N7 fo)) (N9 f 68 (N7 fo) (N9 f 69 (N7 fo) (N7 fo)))))) (N9 f 81 (N9 f 75 (N9 f 72 (N9 f 71 (N7 fo) (N7 fo)) (N9 f 73 (N7 fo) (N9 f 74 (N7 fo) (N7 fo)))) (N9 f 77 (N9 f 76 (N7 fo) (N7 fo)) (N9 f 79 (N7 fo) (N9 f 80 (N7 fo) (N7 fo))))) (N9 f 86 (N9 f 83 (N9 f 82 (N7 fo) (N7 fo)) (N9 f 84 (N7 fo) (N9 f 85 (N7 fo) (N7 fo)))) (N9 f 89 (N9 f 88 (N7 fo) (N7 fo)) (N9 f 90 (N7 fo) (N9 f 91 (N7 fo) (N7 fo))))))))
theorem A0i(f:Nat)(p:PFn)(e:A1 f=some p):FnOk A0 f p:=by
 have:=GB f
 rw[e]at this;exact this
theorem pe_ok:PEok ⟨A0,T0,A1⟩:=⟨(fun g v e=>by cases (e:(none:Option AV)=some v)),tip,(fun f g e=>by cases (e:(none:Option (List AV->Option (List AV)))=some g)),A0i⟩
end Go.Proofs.AmEnv
