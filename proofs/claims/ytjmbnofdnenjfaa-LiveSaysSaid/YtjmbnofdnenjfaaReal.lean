/- The tables are this program's. Conditions: none. -/
import Derived.Test.YtjmbnofdnenjfaaGenC
import Derived.KernelRfl
import Derived.Shelf.Strings.Shaped
import Derived.Test.YtjmbnofdnenjfaaProg
set_option linter.unusedVariables false
set_option linter.unusedSimpArgs false
set_option linter.unusedSectionVars false
set_option linter.defProp false
set_option maxRecDepth 100000
set_option maxHeartbeats 4000000
open Nat renaming eq_of_beq_eq_true→zqa
namespace Go.Proofs
open Go.Shelf
def Try.laysM144_ren:Go.Shelf.Ren:=⟨fun|144=>65|143=>72|219=>74|217=>75|225=>76|224=>77|267=>78|266=>79|314=>80|n=>n,fun|9=>9|4=>4|3=>3|5=>5|46=>103|146=>105|51=>104|n=>n,fun|1=>0|n=>n⟩
theorem Try.laysM144:Go.Proofs.LaysM.n144 Try.prog Try.laysM144_ren:={
 mixed:=by kernel_rfl
 f143:=Try.func72.trans (congrArg some (by kernel_rfl))
 f144:=Try.func65.trans (congrArg some (by kernel_rfl))
 f217:=Try.func75.trans (congrArg some (by kernel_rfl))
 f219:=Try.func74.trans (congrArg some (by kernel_rfl))
 f224:=Try.func77.trans (congrArg some (by kernel_rfl))
 f225:=Try.func76.trans (congrArg some (by kernel_rfl))
 f266:=Try.func79.trans (congrArg some (by kernel_rfl))
 f267:=Try.func78.trans (congrArg some (by kernel_rfl))
 f314:=Try.func80.trans (congrArg some (by kernel_rfl))
 t3:=Try.underlying3
 a3:=Try.isAgg3
 z3:=Try.sizeOf3
 v3:=Try.zeroValue3
 t4:=Try.underlying4
 a4:=Try.isAgg4
 z4:=Try.sizeOf4
 v4:=Try.zeroValue4
 t5:=Try.underlying5
 a5:=Try.isAgg5
 z5:=Try.sizeOf5
 v5:=Try.zeroValue5
 t9:=Try.underlying9
 a9:=Try.isAgg9
 z9:=Try.sizeOf9
 v9:=Try.zeroValue9
 t46:=Try.underlying103
 a46:=Try.isAgg103
 z46:=Try.sizeOf103
 v46:=Try.zeroValue103
 t51:=Try.underlying104
 a51:=Try.isAgg104
 z51:=Try.sizeOf104
 v51:=Try.zeroValue104
 t146:=Try.underlying105
 a146:=Try.isAgg105
 z146:=Try.sizeOf105
 v146:=Try.zeroValue105
 g1:=by kernel_rfl
 i3:=by kernel_rfl
 i4:=by kernel_rfl
 i5:=by kernel_rfl
 i9:=by kernel_rfl
 i46:=by kernel_rfl
 i51:=by kernel_rfl
 i146:=by kernel_rfl
 m1:=by kernel_rfl
 s1_3:=fun w h=>Go.Proofs.cell_of_shapedOpen_int (zero:=#[.int .i64 0]) (t:=3) h (of_decide_eq_true (by kernel_rfl)) (by kernel_rfl) rfl (by kernel_rfl) (by kernel_rfl) Try.underlying3}
end Go.Proofs
namespace Go.Proofs.AmEnv
open Go Go.AM
theorem GD:∀f ks,A0.dlf f=some ks->AF Try.prog f ks:=fun f ks h=>by cases (h:(none:Option (List Nat))=some ks)
theorem GE:∀f k,A0.srt f k=true->AG Try.prog f k:=fun f k h=>by cases (h:false=true)
theorem GF:(List.range 97).map fn=(List.range 97).map (sZ 14130205960461516537848 Try.prog):=by kernel_rfl
def MR:AV->Bool
 | .int _ _ | .bool _ | .str _ | .nilptr | .nilsl | .nilfn | .niliface | .nilmap=>true
 |_=>false
noncomputable def PY(q:TI):Bool:=(match q.zero with | .agg cs=>cs.all MR|x=>MR x)&&Nat.beq q.zero.cells.length q.size
theorem zfS_fz{Z:Nat->Prop}{h:Heap}{x:AV}(e:MR x=true):Fz Z h x x:=by
 cases x<;>first|exact .int _ _|exact .bool _|exact .str _|exact .nilptr|exact .nilsl|exact .nilfn|exact .niliface|exact .nilmap|cases e
theorem AC{x:AV}(e:MR x=true):AM.clo x=true:=by
 cases x<;>first|rfl|cases e
theorem GG{q:TI}(e:PY q=true):(∀Z h,Fz Z h q.zero q.zero)/\q.zero.cells.length=q.size:=by
 unfold PY at e;rw[Bool.and_eq_true]at e;refine⟨fun Z h=>?_,zqa e.2⟩;have e:=e.1;cases hz:q.zero with
 | agg cs =>
  rw[hz]at e;have e:cs.all MR=true:=e;rw[List.all_eq_true]at e;exact .agg rfl (fun i x y hx hy=>by rw[hx]at hy;cases hy;exact zfS_fz (e x (List.mem_of_getElem? hx))) (List.all_eq_true.2 fun x hx=>AC (e x hx))
 |_=>rw[hz]at e;exact zfS_fz e
def MS(f:Nat)(o:Option Go.AM.FI):Prop:=∀x,o=some x->f<97
theorem V4(t m:Nat){a b:Option Go.AM.FI}(ha:MS t a)(hb:MS t b):MS t (bif Nat.blt t m then a else b):=by cases Nat.blt t m<;>assumption
theorem V1{t m:Nat}{p:Go.AM.FI}(h:m<97):MS t (bif Nat.beq t m then some p else none):=by
 cases e:Nat.beq t m with
 |true=>rw[zqa e];exact fun _ _=>h
 |false=>intro x hx;cases hx
theorem MT(f:Nat):MS f (fn f):=(V4 f 37 (V4 f 20 (V4 f 11 (V4 f 7 (V4 f 5 (V4 f 4 (V1 (by decide)) (V1 (by decide))) (V4 f 6 (V1 (by decide)) (V1 (by decide)))) (V4 f 9 (V4 f 8 (V1 (by decide)) (V1 (by decide))) (V4 f 10 (V1 (by decide)) (V1 (by decide))))) (V4 f 15 (V4 f 13 (V4 f 12 (V1 (by decide)) (V1 (by decide))) (V4 f 14 (V1 (by decide)) (V1 (by decide)))) (V4 f 17 (V4 f 16 (V1 (by decide)) (V1 (by decide))) (V4 f 18 (V1 (by decide)) (V4 f 19 (V1 (by decide)) (V1 (by decide))))))) (V4 f 28 (V4 f 24 (V4 f 22 (V4 f 21 (V1 (by decide)) (V1 (by decide))) (V4 f 23 (V1 (by decide)) (V1 (by decide)))) (V4 f 26 (V4 f 25 (V1 (by decide)) (V1 (by decide))) (V4 f 27 (V1 (by decide)) (V1 (by decide))))) (V4 f 32 (V4 f 30 (V4 f 29 (V1 (by decide)) (V1 (by decide))) (V4 f 31 (V1 (by decide)) (V1 (by decide)))) (V4 f 34 (V4 f 33 (V1 (by decide)) (V1 (by decide))) (V4 f 35 (V1 (by decide)) (V4 f 36 (V1 (by decide)) (V1 (by decide)))))))) (V4 f 54 (V4 f 45 (V4 f 41 (V4 f 39 (V4 f 38 (V1 (by decide)) (V1 (by decide))) (V4 f 40 (V1 (by decide)) (V1 (by decide)))) (V4 f 43 (V4 f 42 (V1 (by decide)) (V1 (by decide))) (V4 f 44 (V1 (by decide)) (V1 (by decide))))) (V4 f 49 (V4 f 47 (V4 f 46 (V1 (by decide)) (V1 (by decide))) (V4 f 48 (V1 (by decide)) (V1 (by decide)))) (V4 f 51 (V4 f 50 (V1 (by decide)) (V1 (by decide))) (V4 f 52 (V1 (by decide)) (V4 f 53 (V1 (by decide)) (V1 (by decide))))))) (V4 f 63 (V4 f 58 (V4 f 56 (V4 f 55 (V1 (by decide)) (V1 (by decide))) (V4 f 57 (V1 (by decide)) (V1 (by decide)))) (V4 f 60 (V4 f 59 (V1 (by decide)) (V1 (by decide))) (V4 f 61 (V1 (by decide)) (V4 f 62 (V1 (by decide)) (V1 (by decide)))))) (V4 f 68 (V4 f 66 (V4 f 64 (V1 (by decide)) (V1 (by decide))) (V4 f 67 (V1 (by decide)) (V1 (by decide)))) (V4 f 70 (V4 f 69 (V1 (by decide)) (V1 (by decide))) (V4 f 71 (V1 (by decide)) (V4 f 73 (V1 (by decide)) (V1 (by decide)))))))))
theorem AD(t:Nat)(h:97<=t):fn t=none:=by
 cases e:fn t with
 |none=>rfl
 |some x=>exact absurd (MT t x e) (by omega)
def MU(t:Nat)(o:Option TI):Prop:=∀x,o=some x->yA Try.prog t=some x/\PY x=true
theorem Gu(t m:Nat){a b:Option TI}(ha:MU t a)(hb:MU t b):MU t (bif Nat.blt t m then a else b):=by cases Nat.blt t m<;>assumption
theorem Ek{t m:Nat}{p:TI}(h:yA Try.prog m=some p)(hz:PY p=true):MU t (bif Nat.beq t m then some p else none):=by
 cases e:Nat.beq t m with
 |true=>rw[zqa e];intro x hx;cases hx;exact⟨h,hz⟩
 |false=>intro x hx;cases hx
theorem xK(t:Nat):MU t (ti t):=(Gu t 43 (Gu t 29 (Gu t 21 (Gu t 9 (Gu t 4 (Ek (by kernel_rfl) rfl) (Ek (by kernel_rfl) rfl)) (Gu t 17 (Ek (by kernel_rfl) rfl) (Ek (by kernel_rfl) rfl))) (Gu t 23 (Gu t 22 (Ek (by kernel_rfl) rfl) (Ek (by kernel_rfl) rfl)) (Gu t 25 (Ek (by kernel_rfl) rfl) (Gu t 28 (Ek (by kernel_rfl) rfl) (Ek (by kernel_rfl) rfl))))) (Gu t 37 (Gu t 32 (Gu t 31 (Ek (by kernel_rfl) rfl) (Ek (by kernel_rfl) rfl)) (Gu t 33 (Ek (by kernel_rfl) rfl) (Ek (by kernel_rfl) rfl))) (Gu t 39 (Gu t 38 (Ek (by kernel_rfl) rfl) (Ek (by kernel_rfl) rfl)) (Gu t 41 (Ek (by kernel_rfl) rfl) (Gu t 42 (Ek (by kernel_rfl) rfl) (Ek (by kernel_rfl) rfl)))))) (Gu t 67 (Gu t 50 (Gu t 46 (Gu t 45 (Ek (by kernel_rfl) rfl) (Ek (by kernel_rfl) rfl)) (Gu t 47 (Ek (by kernel_rfl) rfl) (Ek (by kernel_rfl) rfl))) (Gu t 60 (Gu t 59 (Ek (by kernel_rfl) rfl) (Ek (by kernel_rfl) rfl)) (Gu t 61 (Ek (by kernel_rfl) rfl) (Gu t 62 (Ek (by kernel_rfl) rfl) (Ek (by kernel_rfl) rfl))))) (Gu t 94 (Gu t 85 (Gu t 69 (Ek (by kernel_rfl) rfl) (Ek (by kernel_rfl) rfl)) (Gu t 92 (Ek (by kernel_rfl) rfl) (Ek (by kernel_rfl) rfl))) (Gu t 101 (Gu t 97 (Ek (by kernel_rfl) rfl) (Ek (by kernel_rfl) rfl)) (Gu t 109 (Ek (by kernel_rfl) rfl) (Gu t 110 (Ek (by kernel_rfl) rfl) (Ek (by kernel_rfl) rfl)))))))
theorem tip:FV A0:=fun t q e=>GG (xK t q e).2
theorem env_ok:EnvOk A0 Try.prog:=⟨fun t x h=>yC (xK t x h).1,fun f x hx=>yE (tC (tD GF AD hx)),(yF Go.Proofs.Try.laysM144 (fun f h=>E5 h) rfl),GD,GE,by kernel_rfl⟩
def MV(f:Nat):Option PFn->Prop
 |none=>True
 |some p=>FnOk A0 f p
theorem V5(f m:Nat){a b:Option PFn}(ha:MV f a)(hb:MV f b):MV f (bif Nat.blt f m then a else b):=by cases Nat.blt f m<;>assumption
theorem V2{f m:Nat}{p:PFn}(h:FnOk A0 m p):MV f (bif Nat.beq f m then some p else none):=by
 cases e:Nat.beq f m with
 |true=>rw[zqa e];exact h
 |false=>trivial
theorem fo{p:Prop}(h:p:=by exact⟨rfl,rfl,rfl,fun _ _=>rfl,by kernel_rfl,by decide +kernel,by kernel_rfl⟩):p:=h
theorem GH(f:Nat):MV f (A2 f):=(V5 f 37 (V5 f 20 (V5 f 11 (V5 f 7 (V5 f 5 (V5 f 4 (V2 fo) (V2 fo)) (V5 f 6 (V2 fo) (V2 fo))) (V5 f 9 (V5 f 8 (V2 fo) (V2 fo)) (V5 f 10 (V2 fo) (V2 fo)))) (V5 f 15 (V5 f 13 (V5 f 12 (V2 fo) (V2 fo)) (V5 f 14 (V2 fo) (V2 fo))) (V5 f 17 (V5 f 16 (V2 fo) (V2 fo)) (V5 f 18 (V2 fo) (V5 f 19 (V2 fo) (V2 fo)))))) (V5 f 28 (V5 f 24 (V5 f 22 (V5 f 21 (V2 fo) (V2 fo)) (V5 f 23 (V2 fo) (V2 fo))) (V5 f 26 (V5 f 25 (V2 fo) (V2 fo)) (V5 f 27 (V2 fo) (V2 fo)))) (V5 f 32 (V5 f 30 (V5 f 29 (V2 fo) (V2 fo)) (V5 f 31 (V2 fo) (V2 fo))) (V5 f 34 (V5 f 33 (V2 fo) (V2 fo)) (V5 f 35 (V2 fo) (V5 f 36 (V2 fo) (V2 fo))))))) (V5 f 54 (V5 f 45 (V5 f 41 (V5 f 39 (V5 f 38 (V2 fo) (V2 fo)) (V5 f 40 (V2 fo) (V2 fo))) (V5 f 43 (V5 f 42 (V2 fo) (V2 fo)) (V5 f 44 (V2 fo) (V2 fo)))) (V5 f 49 (V5 f 47 (V5 f 46 (V2 fo) (V2 fo)) (V5 f 48 (V2 fo) (V2 fo))) (V5 f 51 (V5 f 50 (V2 fo) (V2 fo)) (V5 f 52 (V2 fo) (V5 f 53 (V2 fo) (V2 fo)))))) (V5 f 63 (V5 f 58 (V5 f 56 (V5 f 55 (V2 fo) (V2 fo)) (V5 f 57 (V2 fo) (V2 fo))) (V5 f 60 (V5 f 59 (V2 fo) (V2 fo)) (V5 f 61 (V2 fo) (V5 f 62 (V2 fo) (V2 fo))))) (V5 f 68 (V5 f 66 (V5 f 64 (V2 fo) (V2 fo)) (V5 f 67 (V2 fo) (V2 fo))) (V5 f 70 (V5 f 69 (V2 fo) (V2 fo)) (V5 f 71 (V2 fo) (V5 f 73 (V2 fo) (V2 fo))))))))
theorem ZH(f:Nat)(p:PFn)(e:A2 f=some p):FnOk A0 f p:=by
 have:=GH f
 rw[e]at this;exact this
theorem pe_ok:PEok ⟨A0,T0,A2⟩:=⟨(fun g v e=>by cases (e:(none:Option AV)=some v)),tip,(fun f g e=>by cases (e:(none:Option (List AV->Option (List AV)))=some g)),ZH⟩
end Go.Proofs.AmEnv
