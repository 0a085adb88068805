/- The tables are this program's. Conditions: none. -/
import Derived.Test.YtnglooakgahhhaaGenB
import Derived.KernelRfl
import Derived.Shelf.Strings.Shaped
import Derived.Test.YtnglooakgahhhaaProg
set_option linter.unusedVariables false
set_option linter.unusedSimpArgs false
set_option linter.unusedSectionVars false
set_option linter.defProp false
set_option maxRecDepth 100000
set_option maxHeartbeats 4000000
open Option renaming some→zs,none→zn
open Bool renaming true→zt,false→zf
open Nat renaming eq_of_beq_eq_true→zqa
namespace Go.Proofs
open Go.Shelf
def Try.laysM144_ren:Go.Shelf.Ren:=⟨fun|144=>57|143=>70|219=>75|217=>76|225=>77|224=>78|267=>79|266=>80|314=>81|n=>n,fun|9=>9|4=>4|3=>3|5=>5|46=>122|146=>127|51=>126|n=>n,fun|1=>0|n=>n⟩
theorem Try.laysM144:Go.Proofs.LaysM.n144 Try.prog Try.laysM144_ren:={
 mixed:=by kernel_rfl
 f143:=Try.func70.trans (congrArg zs (by kernel_rfl))
 f144:=Try.func57.trans (congrArg zs (by kernel_rfl))
 f217:=Try.func76.trans (congrArg zs (by kernel_rfl))
 f219:=Try.func75.trans (congrArg zs (by kernel_rfl))
 f224:=Try.func78.trans (congrArg zs (by kernel_rfl))
 f225:=Try.func77.trans (congrArg zs (by kernel_rfl))
 f266:=Try.func80.trans (congrArg zs (by kernel_rfl))
 f267:=Try.func79.trans (congrArg zs (by kernel_rfl))
 f314:=Try.func81.trans (congrArg zs (by kernel_rfl))
 t3:=Try.underlying3
 a3:=Try.isAgg3
 z3:=Try.sizeOf3
 v3:=Try.zeroValue3
 t4:=Try.underlying4
 a4:=Try.isAgg4
 z4:=Try.sizeOf4
 v4:=Try.zeroValue4
 t5:=Try.underlying5
 a5:=Try.isAgg5
 z5:=Try.sizeOf5
 v5:=Try.zeroValue5
 t9:=Try.underlying9
 a9:=Try.isAgg9
 z9:=Try.sizeOf9
 v9:=Try.zeroValue9
 t46:=Try.underlying122
 a46:=Try.isAgg122
 z46:=Try.sizeOf122
 v46:=Try.zeroValue122
 t51:=Try.underlying126
 a51:=Try.isAgg126
 z51:=Try.sizeOf126
 v51:=Try.zeroValue126
 t146:=Try.underlying127
 a146:=Try.isAgg127
 z146:=Try.sizeOf127
 v146:=Try.zeroValue127
 g1:=by kernel_rfl
 i3:=by kernel_rfl
 i4:=by kernel_rfl
 i5:=by kernel_rfl
 i9:=by kernel_rfl
 i46:=by kernel_rfl
 i51:=by kernel_rfl
 i146:=by kernel_rfl
 m1:=by kernel_rfl
 s1_3:=fun w h=>Go.Proofs.cell_of_shapedOpen_int (zero:=#[.int .i64 0]) (t:=3) h (of_decide_eq_true (by kernel_rfl)) (by kernel_rfl) rfl (by kernel_rfl) (by kernel_rfl) Try.underlying3}
end Go.Proofs
namespace Go.Proofs.AmEnv
open Go Go.AM
theorem GY:∀f ks,env.dlf f=zs ks->zZ Try.prog f ks:=fun f ks h=>by cases (h:(zn:Option (List Nat))=zs ks)
theorem GZ:∀f k,env.srt f k=zt->AA Try.prog f k:=fun f k h=>by cases (h:zf=zt)
theorem HA:(List.range 98).map fn=(List.range 98).map (sL 36598196127051674550264 Try.prog):=by kernel_rfl
def PI:AV->Bool
 |.int _ _ | .bool _ | .str _ | .nilptr | .nilsl | .nilfn | .niliface | .nilmap=>zt
 |_=>zf
noncomputable def SC(q:TI):Bool:=(match q.zero with | .agg cs=>cs.all PI|x=>PI x)&&Nat.beq q.zero.cells.length q.size
theorem zfS_fz{Z:Nat->Prop}{h:Heap}{x:AV}(e:PI x=zt):Fz Z h x x:=by
 cases x<;>first|exact .int _ _|exact .bool _|exact .str _|exact .nilptr|exact .nilsl|exact .nilfn|exact .niliface|exact .nilmap|cases e
theorem zW{x:AV}(e:PI x=zt):AM.clo x=zt:=by
 cases x<;>first|rfl|cases e
theorem HB{q:TI}(e:SC q=zt):(∀Z h,Fz Z h q.zero q.zero)/\q.zero.cells.length=q.size:=by
 unfold SC at e;rw[Bool.and_eq_true]at e;refine⟨fun Z h=>?_,zqa e.2⟩;have e:=e.1;cases hz:q.zero with
 |agg cs=>
  rw[hz]at e;have e:cs.all PI=zt:=e;rw[List.all_eq_true]at e;exact .agg rfl (fun i x y A B=>by rw[A]at B;cases B;exact zfS_fz (e x (List.mem_of_getElem? A))) (List.all_eq_true.2 fun x A=>zW (e x A))
 |_=>rw[hz]at e;exact zfS_fz e
def PL(f:Nat)(o:Option Go.AM.FI):Prop:=∀x,o=zs x->f<98
theorem U8(t m:Nat){a b:Option Go.AM.FI}(ha:PL t a)(hb:PL t b):PL t (bif Nat.blt t m then a else b):=by cases Nat.blt t m<;>assumption
theorem U2{t m:Nat}{p:Go.AM.FI}(h:m<98):PL t (bif Nat.beq t m then zs p else zn):=by
 cases e:Nat.beq t m with
 |true=>rw[zqa e];exact fun _ _=>h
 |false=>intro x A;cases A
theorem PM(f:Nat):PL f (fn f):=(U8 f 38 (U8 f 20 (U8 f 11 (U8 f 7 (U8 f 5 (U8 f 4 (U2 (by decide)) (U2 (by decide))) (U8 f 6 (U2 (by decide)) (U2 (by decide)))) (U8 f 9 (U8 f 8 (U2 (by decide)) (U2 (by decide))) (U8 f 10 (U2 (by decide)) (U2 (by decide))))) (U8 f 15 (U8 f 13 (U8 f 12 (U2 (by decide)) (U2 (by decide))) (U8 f 14 (U2 (by decide)) (U2 (by decide)))) (U8 f 17 (U8 f 16 (U2 (by decide)) (U2 (by decide))) (U8 f 18 (U2 (by decide)) (U8 f 19 (U2 (by decide)) (U2 (by decide))))))) (U8 f 29 (U8 f 24 (U8 f 22 (U8 f 21 (U2 (by decide)) (U2 (by decide))) (U8 f 23 (U2 (by decide)) (U2 (by decide)))) (U8 f 26 (U8 f 25 (U2 (by decide)) (U2 (by decide))) (U8 f 27 (U2 (by decide)) (U8 f 28 (U2 (by decide)) (U2 (by decide)))))) (U8 f 33 (U8 f 31 (U8 f 30 (U2 (by decide)) (U2 (by decide))) (U8 f 32 (U2 (by decide)) (U2 (by decide)))) (U8 f 35 (U8 f 34 (U2 (by decide)) (U2 (by decide))) (U8 f 36 (U2 (by decide)) (U8 f 37 (U2 (by decide)) (U2 (by decide)))))))) (U8 f 55 (U8 f 46 (U8 f 42 (U8 f 40 (U8 f 39 (U2 (by decide)) (U2 (by decide))) (U8 f 41 (U2 (by decide)) (U2 (by decide)))) (U8 f 44 (U8 f 43 (U2 (by decide)) (U2 (by decide))) (U8 f 45 (U2 (by decide)) (U2 (by decide))))) (U8 f 50 (U8 f 48 (U8 f 47 (U2 (by decide)) (U2 (by decide))) (U8 f 49 (U2 (by decide)) (U2 (by decide)))) (U8 f 52 (U8 f 51 (U2 (by decide)) (U2 (by decide))) (U8 f 53 (U2 (by decide)) (U8 f 54 (U2 (by decide)) (U2 (by decide))))))) (U8 f 65 (U8 f 60 (U8 f 58 (U8 f 56 (U2 (by decide)) (U2 (by decide))) (U8 f 59 (U2 (by decide)) (U2 (by decide)))) (U8 f 62 (U8 f 61 (U2 (by decide)) (U2 (by decide))) (U8 f 63 (U2 (by decide)) (U8 f 64 (U2 (by decide)) (U2 (by decide)))))) (U8 f 69 (U8 f 67 (U8 f 66 (U2 (by decide)) (U2 (by decide))) (U8 f 68 (U2 (by decide)) (U2 (by decide)))) (U8 f 72 (U8 f 71 (U2 (by decide)) (U2 (by decide))) (U8 f 73 (U2 (by decide)) (U8 f 74 (U2 (by decide)) (U2 (by decide)))))))))
theorem zX(t:Nat)(h:98<=t):fn t=zn:=by
 cases e:fn t with
 |none=>rfl
 |some x=>exact absurd (PM t x e) (by omega)
def PN(t:Nat)(o:Option TI):Prop:=∀x,o=zs x->xG Try.prog t=zs x/\SC x=zt
theorem At(t m:Nat){a b:Option TI}(ha:PN t a)(hb:PN t b):PN t (bif Nat.blt t m then a else b):=by cases Nat.blt t m<;>assumption
theorem As{t m:Nat}{p:TI}(h:xG Try.prog m=zs p)(hz:SC p=zt):PN t (bif Nat.beq t m then zs p else zn):=by
 cases e:Nat.beq t m with
 |true=>rw[zqa e];intro x A;cases A;exact⟨h,hz⟩
 |false=>intro x A;cases A
theorem wT(t:Nat):PN t (ti t):=(At t 51 (At t 33 (At t 21 (At t 4 (At t 3 (As (by kernel_rfl) rfl) (As (by kernel_rfl) rfl)) (At t 9 (As (by kernel_rfl) rfl) (At t 20 (As (by kernel_rfl) rfl) (As (by kernel_rfl) rfl)))) (At t 25 (At t 22 (As (by kernel_rfl) rfl) (At t 23 (As (by kernel_rfl) rfl) (As (by kernel_rfl) rfl))) (At t 26 (As (by kernel_rfl) rfl) (At t 32 (As (by kernel_rfl) rfl) (As (by kernel_rfl) rfl))))) (At t 42 (At t 38 (At t 36 (As (by kernel_rfl) rfl) (At t 37 (As (by kernel_rfl) rfl) (As (by kernel_rfl) rfl))) (At t 39 (As (by kernel_rfl) rfl) (At t 41 (As (by kernel_rfl) rfl) (As (by kernel_rfl) rfl)))) (At t 45 (At t 43 (As (by kernel_rfl) rfl) (At t 44 (As (by kernel_rfl) rfl) (As (by kernel_rfl) rfl))) (At t 47 (As (by kernel_rfl) rfl) (At t 50 (As (by kernel_rfl) rfl) (As (by kernel_rfl) rfl)))))) (At t 80 (At t 62 (At t 59 (At t 55 (As (by kernel_rfl) rfl) (At t 57 (As (by kernel_rfl) rfl) (As (by kernel_rfl) rfl))) (At t 60 (As (by kernel_rfl) rfl) (At t 61 (As (by kernel_rfl) rfl) (As (by kernel_rfl) rfl)))) (At t 68 (At t 65 (As (by kernel_rfl) rfl) (At t 66 (As (by kernel_rfl) rfl) (As (by kernel_rfl) rfl))) (At t 72 (As (by kernel_rfl) rfl) (At t 78 (As (by kernel_rfl) rfl) (As (by kernel_rfl) rfl))))) (At t 104 (At t 99 (At t 94 (As (by kernel_rfl) rfl) (At t 97 (As (by kernel_rfl) rfl) (As (by kernel_rfl) rfl))) (At t 102 (As (by kernel_rfl) rfl) (At t 103 (As (by kernel_rfl) rfl) (As (by kernel_rfl) rfl)))) (At t 110 (At t 105 (As (by kernel_rfl) rfl) (At t 109 (As (by kernel_rfl) rfl) (As (by kernel_rfl) rfl))) (At t 122 (As (by kernel_rfl) rfl) (At t 124 (As (by kernel_rfl) rfl) (As (by kernel_rfl) rfl)))))))
theorem tip:GN env:=fun t q e=>HB (wT t q e).2
theorem env_ok:EnvOk env Try.prog:=⟨fun t x h=>xI (wT t x h).1,fun f x A=>xK (sM (sN HA zX A)),(xL Go.Proofs.Try.laysM144 (fun f h=>C4 h) rfl),GY,GZ,by kernel_rfl⟩
def PP(f:Nat):Option PFn->Prop
 |none=>True
 |some p=>FnOk env f p
theorem U9(f m:Nat){a b:Option PFn}(ha:PP f a)(hb:PP f b):PP f (bif Nat.blt f m then a else b):=by cases Nat.blt f m<;>assumption
theorem U3{f m:Nat}{p:PFn}(h:FnOk env m p):PP f (bif Nat.beq f m then zs p else zn):=by
 cases e:Nat.beq f m with
 |true=>rw[zqa e];exact h
 |false=>trivial
theorem fo{p:Prop}(h:p:=by exact⟨rfl,rfl,rfl,fun _ _=>rfl,by kernel_rfl,by decide +kernel,by kernel_rfl⟩):p:=h
theorem HC(f:Nat):PP f (A1 f):=(U9 f 38 (U9 f 20 (U9 f 11 (U9 f 7 (U9 f 5 (U9 f 4 (U3 fo) (U3 fo)) (U9 f 6 (U3 fo) (U3 fo))) (U9 f 9 (U9 f 8 (U3 fo) (U3 fo)) (U9 f 10 (U3 fo) (U3 fo)))) (U9 f 15 (U9 f 13 (U9 f 12 (U3 fo) (U3 fo)) (U9 f 14 (U3 fo) (U3 fo))) (U9 f 17 (U9 f 16 (U3 fo) (U3 fo)) (U9 f 18 (U3 fo) (U9 f 19 (U3 fo) (U3 fo)))))) (U9 f 29 (U9 f 24 (U9 f 22 (U9 f 21 (U3 fo) (U3 fo)) (U9 f 23 (U3 fo) (U3 fo))) (U9 f 26 (U9 f 25 (U3 fo) (U3 fo)) (U9 f 27 (U3 fo) (U9 f 28 (U3 fo) (U3 fo))))) (U9 f 33 (U9 f 31 (U9 f 30 (U3 fo) (U3 fo)) (U9 f 32 (U3 fo) (U3 fo))) (U9 f 35 (U9 f 34 (U3 fo) (U3 fo)) (U9 f 36 (U3 fo) (U9 f 37 (U3 fo) (U3 fo))))))) (U9 f 55 (U9 f 46 (U9 f 42 (U9 f 40 (U9 f 39 (U3 fo) (U3 fo)) (U9 f 41 (U3 fo) (U3 fo))) (U9 f 44 (U9 f 43 (U3 fo) (U3 fo)) (U9 f 45 (U3 fo) (U3 fo)))) (U9 f 50 (U9 f 48 (U9 f 47 (U3 fo) (U3 fo)) (U9 f 49 (U3 fo) (U3 fo))) (U9 f 52 (U9 f 51 (U3 fo) (U3 fo)) (U9 f 53 (U3 fo) (U9 f 54 (U3 fo) (U3 fo)))))) (U9 f 65 (U9 f 60 (U9 f 58 (U9 f 56 (U3 fo) (U3 fo)) (U9 f 59 (U3 fo) (U3 fo))) (U9 f 62 (U9 f 61 (U3 fo) (U3 fo)) (U9 f 63 (U3 fo) (U9 f 64 (U3 fo) (U3 fo))))) (U9 f 69 (U9 f 67 (U9 f 66 (U3 fo) (U3 fo)) (U9 f 68 (U3 fo) (U3 fo))) (U9 f 72 (U9 f 71 (U3 fo) (U3 fo)) (U9 f 73 (U3 fo) (U9 f 74 (U3 fo) (U3 fo))))))))
theorem A0U(f:Nat)(p:PFn)(e:A1 f=zs p):FnOk env f p:=by
 have:=HC f
 rw[e]at this;exact this
theorem pe_ok:PEok ⟨env,T0,A1⟩:=⟨(fun g v e=>by cases (e:(zn:Option AV)=zs v)),tip,(fun f g e=>by cases (e:(zn:Option (List AV->Option (List AV)))=zs g)),A0U⟩
end Go.Proofs.AmEnv
