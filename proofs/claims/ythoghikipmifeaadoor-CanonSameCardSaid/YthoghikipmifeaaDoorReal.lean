/- The tables are this program's. Conditions: none. -/
import Derived.Test.YthoghikipmifeaaDoorGenB
import Derived.KernelRfl
import Derived.Shelf.Strings.Shaped
import Derived.Test.YthoghikipmifeaaDoorProg
set_option linter.unusedVariables false
set_option linter.unusedSimpArgs false
set_option linter.unusedSectionVars false
set_option linter.defProp false
set_option maxRecDepth 100000
set_option maxHeartbeats 4000000
open Nat renaming eq_of_beq_eq_true→zqa
open List renaming all_eq_true→zqb,mem_of_getElem?→zqc
namespace Go.Proofs
open Go.Shelf
def Tryd.laysM144_ren:Go.Shelf.Ren:=⟨fun|144=>54|143=>66|219=>73|217=>76|225=>77|224=>78|267=>79|266=>80|314=>81|n=>n,fun|9=>9|4=>4|3=>3|5=>5|46=>113|146=>118|51=>117|n=>n,fun|1=>1|n=>n⟩
theorem Tryd.laysM144:Go.Proofs.LaysM.n144 Tryd.prog Tryd.laysM144_ren:={
 mixed:=by kernel_rfl
 f143:=Tryd.func66.trans (congrArg some (by kernel_rfl))
 f144:=Tryd.func54.trans (congrArg some (by kernel_rfl))
 f217:=Tryd.func76.trans (congrArg some (by kernel_rfl))
 f219:=Tryd.func73.trans (congrArg some (by kernel_rfl))
 f224:=Tryd.func78.trans (congrArg some (by kernel_rfl))
 f225:=Tryd.func77.trans (congrArg some (by kernel_rfl))
 f266:=Tryd.func80.trans (congrArg some (by kernel_rfl))
 f267:=Tryd.func79.trans (congrArg some (by kernel_rfl))
 f314:=Tryd.func81.trans (congrArg some (by kernel_rfl))
 t3:=Tryd.underlying3
 a3:=Tryd.isAgg3
 z3:=Tryd.sizeOf3
 v3:=Tryd.zeroValue3
 t4:=Tryd.underlying4
 a4:=Tryd.isAgg4
 z4:=Tryd.sizeOf4
 v4:=Tryd.zeroValue4
 t5:=Tryd.underlying5
 a5:=Tryd.isAgg5
 z5:=Tryd.sizeOf5
 v5:=Tryd.zeroValue5
 t9:=Tryd.underlying9
 a9:=Tryd.isAgg9
 z9:=Tryd.sizeOf9
 v9:=Tryd.zeroValue9
 t46:=Tryd.underlying113
 a46:=Tryd.isAgg113
 z46:=Tryd.sizeOf113
 v46:=Tryd.zeroValue113
 t51:=Tryd.underlying117
 a51:=Tryd.isAgg117
 z51:=Tryd.sizeOf117
 v51:=Tryd.zeroValue117
 t146:=Tryd.underlying118
 a146:=Tryd.isAgg118
 z146:=Tryd.sizeOf118
 v146:=Tryd.zeroValue118
 g1:=by kernel_rfl
 i3:=by kernel_rfl
 i4:=by kernel_rfl
 i5:=by kernel_rfl
 i9:=by kernel_rfl
 i46:=by kernel_rfl
 i51:=by kernel_rfl
 i146:=by kernel_rfl
 m1:=by kernel_rfl
 s1_3:=fun w h=>Go.Proofs.cell_of_shapedOpen_int (zero:=#[.int .i64 0]) (t:=3) h (of_decide_eq_true (by kernel_rfl)) (by kernel_rfl) rfl (by kernel_rfl) (by kernel_rfl) Tryd.underlying3}
end Go.Proofs
namespace Go.Proofs.AmEnv
open Go Go.AM
theorem EL:∀f ks,env.dlf f=some ks->zD Tryd.prog f ks:=fun f ks h=>by cases (h:(none:Option (List Nat))=some ks)
theorem EM:∀f k,env.srt f k=true->zE Tryd.prog f k:=fun f k h=>by cases (h:false=true)
theorem EN:(List.range 102).map fn=(List.range 102).map (qV 66039325769481685303288 Tryd.prog):=by kernel_rfl
def FE:AV->Bool
 | .int _ _ | .bool _ | .str _ | .nilptr | .nilsl | .nilfn | .niliface | .nilmap=>true
 |_=>false
noncomputable def OR(q:TI):Bool:=(match q.zero with | .agg cs=>cs.all FE|x=>FE x)&&Nat.beq q.zero.cells.length q.size
theorem zfS_fz{Z:Nat->Prop}{h:Heap}{x:AV}(e:FE x=true):Fz Z h x x:=by
 cases x<;>first|exact .int _ _|exact .bool _|exact .str _|exact .nilptr|exact .nilsl|exact .nilfn|exact .niliface|exact .nilmap|cases e
theorem mK{x:AV}(e:FE x=true):AM.clo x=true:=by
 cases x<;>first|rfl|cases e
theorem EO{q:TI}(e:OR q=true):(∀Z h,Fz Z h q.zero q.zero)/\q.zero.cells.length=q.size:=by
 unfold OR at e;rw[Bool.and_eq_true]at e;refine⟨fun Z h=>?_,zqa e.2⟩;have e:=e.1;cases hz:q.zero with
 | agg cs =>
  rw[hz]at e;have e:cs.all FE=true:=e;rw[zqb]at e;exact .agg rfl (fun i x y hx hy=>by rw[hx]at hy;cases hy;exact zfS_fz (e x (zqc hx))) (zqb.2 fun x hx=>mK (e x hx))
 |_=>rw[hz]at e;exact zfS_fz e
def LU(f:Nat)(o:Option Go.AM.FI):Prop:=∀x,o=some x->f<102
theorem R4(t m:Nat){a b:Option Go.AM.FI}(ha:LU t a)(hb:LU t b):LU t (bif Nat.blt t m then a else b):=by cases Nat.blt t m<;>assumption
theorem Q6{t m:Nat}{p:Go.AM.FI}(h:m<102):LU t (bif Nat.beq t m then some p else none):=by
 cases e:Nat.beq t m with
 |true=>rw[zqa e];exact fun _ _=>h
 |false=>intro x hx;cases hx
theorem LV(f:Nat):LU f (fn f):=(R4 f 38 (R4 f 20 (R4 f 11 (R4 f 7 (R4 f 5 (R4 f 4 (Q6 (by decide)) (Q6 (by decide))) (R4 f 6 (Q6 (by decide)) (Q6 (by decide)))) (R4 f 9 (R4 f 8 (Q6 (by decide)) (Q6 (by decide))) (R4 f 10 (Q6 (by decide)) (Q6 (by decide))))) (R4 f 15 (R4 f 13 (R4 f 12 (Q6 (by decide)) (Q6 (by decide))) (R4 f 14 (Q6 (by decide)) (Q6 (by decide)))) (R4 f 17 (R4 f 16 (Q6 (by decide)) (Q6 (by decide))) (R4 f 18 (Q6 (by decide)) (R4 f 19 (Q6 (by decide)) (Q6 (by decide))))))) (R4 f 29 (R4 f 24 (R4 f 22 (R4 f 21 (Q6 (by decide)) (Q6 (by decide))) (R4 f 23 (Q6 (by decide)) (Q6 (by decide)))) (R4 f 26 (R4 f 25 (Q6 (by decide)) (Q6 (by decide))) (R4 f 27 (Q6 (by decide)) (R4 f 28 (Q6 (by decide)) (Q6 (by decide)))))) (R4 f 33 (R4 f 31 (R4 f 30 (Q6 (by decide)) (Q6 (by decide))) (R4 f 32 (Q6 (by decide)) (Q6 (by decide)))) (R4 f 35 (R4 f 34 (Q6 (by decide)) (Q6 (by decide))) (R4 f 36 (Q6 (by decide)) (R4 f 37 (Q6 (by decide)) (Q6 (by decide)))))))) (R4 f 56 (R4 f 46 (R4 f 42 (R4 f 40 (R4 f 39 (Q6 (by decide)) (Q6 (by decide))) (R4 f 41 (Q6 (by decide)) (Q6 (by decide)))) (R4 f 44 (R4 f 43 (Q6 (by decide)) (Q6 (by decide))) (R4 f 45 (Q6 (by decide)) (Q6 (by decide))))) (R4 f 50 (R4 f 48 (R4 f 47 (Q6 (by decide)) (Q6 (by decide))) (R4 f 49 (Q6 (by decide)) (Q6 (by decide)))) (R4 f 52 (R4 f 51 (Q6 (by decide)) (Q6 (by decide))) (R4 f 53 (Q6 (by decide)) (R4 f 55 (Q6 (by decide)) (Q6 (by decide))))))) (R4 f 65 (R4 f 60 (R4 f 58 (R4 f 57 (Q6 (by decide)) (Q6 (by decide))) (R4 f 59 (Q6 (by decide)) (Q6 (by decide)))) (R4 f 62 (R4 f 61 (Q6 (by decide)) (Q6 (by decide))) (R4 f 63 (Q6 (by decide)) (R4 f 64 (Q6 (by decide)) (Q6 (by decide)))))) (R4 f 70 (R4 f 68 (R4 f 67 (Q6 (by decide)) (Q6 (by decide))) (R4 f 69 (Q6 (by decide)) (Q6 (by decide)))) (R4 f 72 (R4 f 71 (Q6 (by decide)) (Q6 (by decide))) (R4 f 74 (Q6 (by decide)) (R4 f 75 (Q6 (by decide)) (Q6 (by decide)))))))))
theorem zC(t:Nat)(h:102<=t):fn t=none:=by
 cases e:fn t with
 |none=>rfl
 |some x=>exact absurd (LV t x e) (by omega)
def LW(t:Nat)(o:Option TI):Prop:=∀x,o=some x->wH Tryd.prog t=some x/\OR x=true
theorem v7(t m:Nat){a b:Option TI}(ha:LW t a)(hb:LW t b):LW t (bif Nat.blt t m then a else b):=by cases Nat.blt t m<;>assumption
theorem v6{t m:Nat}{p:TI}(h:wH Tryd.prog m=some p)(hz:OR p=true):LW t (bif Nat.beq t m then some p else none):=by
 cases e:Nat.beq t m with
 |true=>rw[zqa e];intro x hx;cases hx;exact⟨h,hz⟩
 |false=>intro x hx;cases hx
theorem vW(t:Nat):LW t (ti t):=(v7 t 47 (v7 t 32 (v7 t 21 (v7 t 4 (v7 t 3 (v6 (by kernel_rfl) rfl) (v6 (by kernel_rfl) rfl)) (v7 t 9 (v6 (by kernel_rfl) rfl) (v7 t 20 (v6 (by kernel_rfl) rfl) (v6 (by kernel_rfl) rfl)))) (v7 t 25 (v7 t 22 (v6 (by kernel_rfl) rfl) (v7 t 23 (v6 (by kernel_rfl) rfl) (v6 (by kernel_rfl) rfl))) (v7 t 26 (v6 (by kernel_rfl) rfl) (v7 t 31 (v6 (by kernel_rfl) rfl) (v6 (by kernel_rfl) rfl))))) (v7 t 41 (v7 t 37 (v7 t 33 (v6 (by kernel_rfl) rfl) (v7 t 36 (v6 (by kernel_rfl) rfl) (v6 (by kernel_rfl) rfl))) (v7 t 38 (v6 (by kernel_rfl) rfl) (v7 t 39 (v6 (by kernel_rfl) rfl) (v6 (by kernel_rfl) rfl)))) (v7 t 44 (v7 t 42 (v6 (by kernel_rfl) rfl) (v7 t 43 (v6 (by kernel_rfl) rfl) (v6 (by kernel_rfl) rfl))) (v7 t 45 (v6 (by kernel_rfl) rfl) (v7 t 46 (v6 (by kernel_rfl) rfl) (v6 (by kernel_rfl) rfl)))))) (v7 t 77 (v7 t 61 (v7 t 55 (v7 t 49 (v6 (by kernel_rfl) rfl) (v7 t 54 (v6 (by kernel_rfl) rfl) (v6 (by kernel_rfl) rfl))) (v7 t 57 (v6 (by kernel_rfl) rfl) (v7 t 60 (v6 (by kernel_rfl) rfl) (v6 (by kernel_rfl) rfl)))) (v7 t 64 (v7 t 62 (v6 (by kernel_rfl) rfl) (v7 t 63 (v6 (by kernel_rfl) rfl) (v6 (by kernel_rfl) rfl))) (v7 t 66 (v6 (by kernel_rfl) rfl) (v7 t 68 (v6 (by kernel_rfl) rfl) (v6 (by kernel_rfl) rfl))))) (v7 t 103 (v7 t 85 (v7 t 81 (v6 (by kernel_rfl) rfl) (v7 t 82 (v6 (by kernel_rfl) rfl) (v6 (by kernel_rfl) rfl))) (v7 t 94 (v6 (by kernel_rfl) rfl) (v7 t 97 (v6 (by kernel_rfl) rfl) (v6 (by kernel_rfl) rfl)))) (v7 t 113 (v7 t 105 (v6 (by kernel_rfl) rfl) (v7 t 109 (v6 (by kernel_rfl) rfl) (v6 (by kernel_rfl) rfl))) (v7 t 123 (v6 (by kernel_rfl) rfl) (v7 t 124 (v6 (by kernel_rfl) rfl) (v6 (by kernel_rfl) rfl)))))))
theorem tip:DZ env:=fun t q e=>EO (vW t q e).2
theorem env_ok:EnvOk env Tryd.prog:=⟨fun t x h=>wJ (vW t x h).1,fun f x hx=>wL (qW (qX EN zC hx)),(wM Go.Proofs.Tryd.laysM144 (fun f h=>D2 h) rfl),EL,EM,by kernel_rfl⟩
def LX(f:Nat):Option PFn->Prop
 |none=>True
 |some p=>FnOk env f p
theorem R5(f m:Nat){a b:Option PFn}(ha:LX f a)(hb:LX f b):LX f (bif Nat.blt f m then a else b):=by cases Nat.blt f m<;>assumption
theorem Q7{f m:Nat}{p:PFn}(h:FnOk env m p):LX f (bif Nat.beq f m then some p else none):=by
 cases e:Nat.beq f m with
 |true=>rw[zqa e];exact h
 |false=>trivial
theorem fo{p:Prop}(h:p:=by exact⟨rfl,rfl,rfl,fun _ _=>rfl,by kernel_rfl,by decide +kernel,by kernel_rfl⟩):p:=h
theorem EP(f:Nat):LX f (A1 f):=(R5 f 38 (R5 f 20 (R5 f 11 (R5 f 7 (R5 f 5 (R5 f 4 (Q7 fo) (Q7 fo)) (R5 f 6 (Q7 fo) (Q7 fo))) (R5 f 9 (R5 f 8 (Q7 fo) (Q7 fo)) (R5 f 10 (Q7 fo) (Q7 fo)))) (R5 f 15 (R5 f 13 (R5 f 12 (Q7 fo) (Q7 fo)) (R5 f 14 (Q7 fo) (Q7 fo))) (R5 f 17 (R5 f 16 (Q7 fo) (Q7 fo)) (R5 f 18 (Q7 fo) (R5 f 19 (Q7 fo) (Q7 fo)))))) (R5 f 29 (R5 f 24 (R5 f 22 (R5 f 21 (Q7 fo) (Q7 fo)) (R5 f 23 (Q7 fo) (Q7 fo))) (R5 f 26 (R5 f 25 (Q7 fo) (Q7 fo)) (R5 f 27 (Q7 fo) (R5 f 28 (Q7 fo) (Q7 fo))))) (R5 f 33 (R5 f 31 (R5 f 30 (Q7 fo) (Q7 fo)) (R5 f 32 (Q7 fo) (Q7 fo))) (R5 f 35 (R5 f 34 (Q7 fo) (Q7 fo)) (R5 f 36 (Q7 fo) (R5 f 37 (Q7 fo) (Q7 fo))))))) (R5 f 56 (R5 f 46 (R5 f 42 (R5 f 40 (R5 f 39 (Q7 fo) (Q7 fo)) (R5 f 41 (Q7 fo) (Q7 fo))) (R5 f 44 (R5 f 43 (Q7 fo) (Q7 fo)) (R5 f 45 (Q7 fo) (Q7 fo)))) (R5 f 50 (R5 f 48 (R5 f 47 (Q7 fo) (Q7 fo)) (R5 f 49 (Q7 fo) (Q7 fo))) (R5 f 52 (R5 f 51 (Q7 fo) (Q7 fo)) (R5 f 53 (Q7 fo) (R5 f 55 (Q7 fo) (Q7 fo)))))) (R5 f 65 (R5 f 60 (R5 f 58 (R5 f 57 (Q7 fo) (Q7 fo)) (R5 f 59 (Q7 fo) (Q7 fo))) (R5 f 62 (R5 f 61 (Q7 fo) (Q7 fo)) (R5 f 63 (Q7 fo) (R5 f 64 (Q7 fo) (Q7 fo))))) (R5 f 70 (R5 f 68 (R5 f 67 (Q7 fo) (Q7 fo)) (R5 f 69 (Q7 fo) (Q7 fo))) (R5 f 72 (R5 f 71 (Q7 fo) (Q7 fo)) (R5 f 74 (Q7 fo) (R5 f 75 (Q7 fo) (Q7 fo))))))))
theorem YG(f:Nat)(p:PFn)(e:A1 f=some p):FnOk env f p:=by
 have:=EP f
 rw[e]at this;exact this
theorem LY:uU env:=fun g v e=>by
 have e:(bif Nat.beq g 0 then some Fh else none)=some v:=e;have hall:(mirs.flatMap fun p=>[AV.str p.1,.str p.2]).all FE=true:=rfl;rw[zqb]at hall;cases hb:Nat.beq g 0 with
 |false=>rw[hb]at e;cases e
 | true =>
  rw[hb]at e;cases e;intro Z h;exact .agg rfl (fun i x y hx hy=>by rw[hx]at hy;cases hy;exact zfS_fz (hall x (zqc hx))) (zqb.2 fun x hx=>mK (hall x hx))
theorem pe_ok:PEok ⟨env,T0,A1⟩:=⟨LY,tip,(fun f g e=>by cases (e:(none:Option (List AV->Option (List AV)))=some g)),YG⟩
end Go.Proofs.AmEnv
