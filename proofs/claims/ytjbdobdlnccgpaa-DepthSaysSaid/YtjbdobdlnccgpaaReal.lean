/- The tables are this program's. Conditions: none. -/
import Derived.Test.YtjbdobdlnccgpaaGenC
import Derived.KernelRfl
import Derived.Shelf.Strings.Shaped
import Derived.Test.YtjbdobdlnccgpaaProg
set_option linter.unusedVariables false
set_option linter.unusedSimpArgs false
set_option linter.unusedSectionVars false
set_option linter.defProp false
set_option maxRecDepth 100000
set_option maxHeartbeats 4000000
open Option renaming some→zs,none→zn
open Bool renaming true→zt,false→zf
open Nat renaming eq_of_beq_eq_true→zqa
namespace Go.Proofs
open Go.Shelf
def Try.laysM144_ren:Go.Shelf.Ren:=⟨fun|144=>71|143=>81|219=>83|217=>84|225=>85|224=>86|267=>87|266=>88|314=>89|n=>n,fun|9=>9|4=>4|3=>3|5=>5|46=>115|146=>117|51=>116|n=>n,fun|1=>0|n=>n⟩
theorem Try.laysM144:Go.Proofs.LaysM.n144 Try.prog Try.laysM144_ren:={
 mixed:=by kernel_rfl
 f143:=Try.func81.trans (congrArg zs (by kernel_rfl))
 f144:=Try.func71.trans (congrArg zs (by kernel_rfl))
 f217:=Try.func84.trans (congrArg zs (by kernel_rfl))
 f219:=Try.func83.trans (congrArg zs (by kernel_rfl))
 f224:=Try.func86.trans (congrArg zs (by kernel_rfl))
 f225:=Try.func85.trans (congrArg zs (by kernel_rfl))
 f266:=Try.func88.trans (congrArg zs (by kernel_rfl))
 f267:=Try.func87.trans (congrArg zs (by kernel_rfl))
 f314:=Try.func89.trans (congrArg zs (by kernel_rfl))
 t3:=Try.underlying3
 a3:=Try.isAgg3
 z3:=Try.sizeOf3
 v3:=Try.zeroValue3
 t4:=Try.underlying4
 a4:=Try.isAgg4
 z4:=Try.sizeOf4
 v4:=Try.zeroValue4
 t5:=Try.underlying5
 a5:=Try.isAgg5
 z5:=Try.sizeOf5
 v5:=Try.zeroValue5
 t9:=Try.underlying9
 a9:=Try.isAgg9
 z9:=Try.sizeOf9
 v9:=Try.zeroValue9
 t46:=Try.underlying115
 a46:=Try.isAgg115
 z46:=Try.sizeOf115
 v46:=Try.zeroValue115
 t51:=Try.underlying116
 a51:=Try.isAgg116
 z51:=Try.sizeOf116
 v51:=Try.zeroValue116
 t146:=Try.underlying117
 a146:=Try.isAgg117
 z146:=Try.sizeOf117
 v146:=Try.zeroValue117
 g1:=by kernel_rfl
 i3:=by kernel_rfl
 i4:=by kernel_rfl
 i5:=by kernel_rfl
 i9:=by kernel_rfl
 i46:=by kernel_rfl
 i51:=by kernel_rfl
 i146:=by kernel_rfl
 m1:=by kernel_rfl
 s1_3:=fun w h=>Go.Proofs.cell_of_shapedOpen_int (zero:=#[.int .i64 0]) (t:=3) h (of_decide_eq_true (by kernel_rfl)) (by kernel_rfl) rfl (by kernel_rfl) (by kernel_rfl) Try.underlying3}
end Go.Proofs
namespace Go.Proofs.AmEnv
open Go Go.AM
theorem IN:∀f ks,env.dlf f=zs ks->BQ Try.prog f ks:=fun f ks h=>by cases (h:(zn:Option (List Nat))=zs ks)
theorem IP:∀f k,env.srt f k=zt->BR Try.prog f k:=fun f k h=>by cases (h:zf=zt)
theorem IR:(List.range 106).map fn=(List.range 106).map (tT 7251193734446340225630200 Try.prog):=by kernel_rfl
def RM:AV->Bool
 |.int _ _ | .bool _ | .str _ | .nilptr | .nilsl | .nilfn | .niliface | .nilmap=>zt
 |_=>zf
noncomputable def VF(q:TI):Bool:=(match q.zero with | .agg cs=>cs.all RM|x=>RM x)&&Nat.beq q.zero.cells.length q.size
theorem zfS_fz{Z:Nat->Prop}{h:Heap}{x:AV}(e:RM x=zt):Fz Z h x x:=by
 cases x<;>first|exact .int _ _|exact .bool _|exact .str _|exact .nilptr|exact .nilsl|exact .nilfn|exact .niliface|exact .nilmap|cases e
theorem BN{x:AV}(e:RM x=zt):AM.clo x=zt:=by
 cases x<;>first|rfl|cases e
theorem IS{q:TI}(e:VF q=zt):(∀Z h,Fz Z h q.zero q.zero)/\q.zero.cells.length=q.size:=by
 unfold VF at e;rw[Bool.and_eq_true]at e;refine⟨fun Z h=>?_,zqa e.2⟩;have e:=e.1;cases hz:q.zero with
 |agg cs=>
  rw[hz]at e;have e:cs.all RM=zt:=e;rw[List.all_eq_true]at e;exact .agg rfl (fun i x y A B=>by rw[A]at B;cases B;exact zfS_fz (e x (List.mem_of_getElem? A))) (List.all_eq_true.2 fun x A=>BN (e x A))
 |_=>rw[hz]at e;exact zfS_fz e
def RN(f:Nat)(o:Option Go.AM.FI):Prop:=∀x,o=zs x->f<106
theorem S3(t m:Nat){a b:Option Go.AM.FI}(ha:RN t a)(hb:RN t b):RN t (bif Nat.blt t m then a else b):=by cases Nat.blt t m<;>assumption
theorem R7{t m:Nat}{p:Go.AM.FI}(h:m<106):RN t (bif Nat.beq t m then zs p else zn):=by
 cases e:Nat.beq t m with
 |true=>rw[zqa e];exact fun _ _=>h
 |false=>intro x A;cases A
theorem RO(f:Nat):RN f (fn f):=(S3 f 42 (S3 f 22 (S3 f 12 (S3 f 7 (S3 f 5 (S3 f 4 (R7 (by decide)) (R7 (by decide))) (S3 f 6 (R7 (by decide)) (R7 (by decide)))) (S3 f 9 (S3 f 8 (R7 (by decide)) (R7 (by decide))) (S3 f 10 (R7 (by decide)) (S3 f 11 (R7 (by decide)) (R7 (by decide)))))) (S3 f 17 (S3 f 14 (S3 f 13 (R7 (by decide)) (R7 (by decide))) (S3 f 15 (R7 (by decide)) (S3 f 16 (R7 (by decide)) (R7 (by decide))))) (S3 f 19 (S3 f 18 (R7 (by decide)) (R7 (by decide))) (S3 f 20 (R7 (by decide)) (S3 f 21 (R7 (by decide)) (R7 (by decide))))))) (S3 f 32 (S3 f 27 (S3 f 24 (S3 f 23 (R7 (by decide)) (R7 (by decide))) (S3 f 25 (R7 (by decide)) (S3 f 26 (R7 (by decide)) (R7 (by decide))))) (S3 f 29 (S3 f 28 (R7 (by decide)) (R7 (by decide))) (S3 f 30 (R7 (by decide)) (S3 f 31 (R7 (by decide)) (R7 (by decide)))))) (S3 f 37 (S3 f 34 (S3 f 33 (R7 (by decide)) (R7 (by decide))) (S3 f 35 (R7 (by decide)) (S3 f 36 (R7 (by decide)) (R7 (by decide))))) (S3 f 39 (S3 f 38 (R7 (by decide)) (R7 (by decide))) (S3 f 40 (R7 (by decide)) (S3 f 41 (R7 (by decide)) (R7 (by decide)))))))) (S3 f 61 (S3 f 51 (S3 f 46 (S3 f 44 (S3 f 43 (R7 (by decide)) (R7 (by decide))) (S3 f 45 (R7 (by decide)) (R7 (by decide)))) (S3 f 48 (S3 f 47 (R7 (by decide)) (R7 (by decide))) (S3 f 49 (R7 (by decide)) (S3 f 50 (R7 (by decide)) (R7 (by decide)))))) (S3 f 56 (S3 f 53 (S3 f 52 (R7 (by decide)) (R7 (by decide))) (S3 f 54 (R7 (by decide)) (S3 f 55 (R7 (by decide)) (R7 (by decide))))) (S3 f 58 (S3 f 57 (R7 (by decide)) (R7 (by decide))) (S3 f 59 (R7 (by decide)) (S3 f 60 (R7 (by decide)) (R7 (by decide))))))) (S3 f 72 (S3 f 66 (S3 f 63 (S3 f 62 (R7 (by decide)) (R7 (by decide))) (S3 f 64 (R7 (by decide)) (S3 f 65 (R7 (by decide)) (R7 (by decide))))) (S3 f 68 (S3 f 67 (R7 (by decide)) (R7 (by decide))) (S3 f 69 (R7 (by decide)) (S3 f 70 (R7 (by decide)) (R7 (by decide)))))) (S3 f 77 (S3 f 74 (S3 f 73 (R7 (by decide)) (R7 (by decide))) (S3 f 75 (R7 (by decide)) (S3 f 76 (R7 (by decide)) (R7 (by decide))))) (S3 f 79 (S3 f 78 (R7 (by decide)) (R7 (by decide))) (S3 f 80 (R7 (by decide)) (S3 f 82 (R7 (by decide)) (R7 (by decide)))))))))
theorem BO(t:Nat)(h:106<=t):fn t=zn:=by
 cases e:fn t with
 |none=>rfl
 |some x=>exact absurd (RO t x e) (by omega)
def RP(t:Nat)(o:Option TI):Prop:=∀x,o=zs x->yN Try.prog t=zs x/\VF x=zt
theorem Cp(t m:Nat){a b:Option TI}(ha:RP t a)(hb:RP t b):RP t (bif Nat.blt t m then a else b):=by cases Nat.blt t m<;>assumption
theorem Bt{t m:Nat}{p:TI}(h:yN Try.prog m=zs p)(hz:VF p=zt):RP t (bif Nat.beq t m then zs p else zn):=by
 cases e:Nat.beq t m with
 |true=>rw[zqa e];intro x A;cases A;exact⟨h,hz⟩
 |false=>intro x A;cases A
theorem xY(t:Nat):RP t (ti t):=(Cp t 59 (Cp t 36 (Cp t 23 (Cp t 9 (Cp t 4 (Bt (by kernel_rfl) rfl) (Bt (by kernel_rfl) rfl)) (Cp t 21 (Bt (by kernel_rfl) rfl) (Cp t 22 (Bt (by kernel_rfl) rfl) (Bt (by kernel_rfl) rfl)))) (Cp t 32 (Cp t 25 (Bt (by kernel_rfl) rfl) (Bt (by kernel_rfl) rfl)) (Cp t 33 (Bt (by kernel_rfl) rfl) (Cp t 34 (Bt (by kernel_rfl) rfl) (Bt (by kernel_rfl) rfl))))) (Cp t 42 (Cp t 38 (Cp t 37 (Bt (by kernel_rfl) rfl) (Bt (by kernel_rfl) rfl)) (Cp t 39 (Bt (by kernel_rfl) rfl) (Cp t 41 (Bt (by kernel_rfl) rfl) (Bt (by kernel_rfl) rfl)))) (Cp t 47 (Cp t 43 (Bt (by kernel_rfl) rfl) (Cp t 45 (Bt (by kernel_rfl) rfl) (Bt (by kernel_rfl) rfl))) (Cp t 49 (Bt (by kernel_rfl) rfl) (Cp t 53 (Bt (by kernel_rfl) rfl) (Bt (by kernel_rfl) rfl)))))) (Cp t 97 (Cp t 65 (Cp t 61 (Cp t 60 (Bt (by kernel_rfl) rfl) (Bt (by kernel_rfl) rfl)) (Cp t 62 (Bt (by kernel_rfl) rfl) (Cp t 63 (Bt (by kernel_rfl) rfl) (Bt (by kernel_rfl) rfl)))) (Cp t 74 (Cp t 72 (Bt (by kernel_rfl) rfl) (Bt (by kernel_rfl) rfl)) (Cp t 77 (Bt (by kernel_rfl) rfl) (Cp t 94 (Bt (by kernel_rfl) rfl) (Bt (by kernel_rfl) rfl))))) (Cp t 105 (Cp t 102 (Cp t 100 (Bt (by kernel_rfl) rfl) (Bt (by kernel_rfl) rfl)) (Cp t 103 (Bt (by kernel_rfl) rfl) (Cp t 104 (Bt (by kernel_rfl) rfl) (Bt (by kernel_rfl) rfl)))) (Cp t 113 (Cp t 109 (Bt (by kernel_rfl) rfl) (Cp t 110 (Bt (by kernel_rfl) rfl) (Bt (by kernel_rfl) rfl))) (Cp t 122 (Bt (by kernel_rfl) rfl) (Cp t 124 (Bt (by kernel_rfl) rfl) (Bt (by kernel_rfl) rfl)))))))
theorem tip:IB env:=fun t q e=>IS (xY t q e).2
theorem env_ok:EnvOk env Try.prog:=⟨fun t x h=>yP (xY t x h).1,fun f x A=>yR (tU (tV IR BO A)),(yS Go.Proofs.Try.laysM144 (fun f h=>D1 h) rfl),IN,IP,by kernel_rfl⟩
def RQ(f:Nat):Option PFn->Prop
 |none=>True
 |some p=>FnOk env f p
theorem S4(f m:Nat){a b:Option PFn}(ha:RQ f a)(hb:RQ f b):RQ f (bif Nat.blt f m then a else b):=by cases Nat.blt f m<;>assumption
theorem R8{f m:Nat}{p:PFn}(h:FnOk env m p):RQ f (bif Nat.beq f m then zs p else zn):=by
 cases e:Nat.beq f m with
 |true=>rw[zqa e];exact h
 |false=>trivial
theorem fo{p:Prop}(h:p:=by exact⟨rfl,rfl,rfl,fun _ _=>rfl,by kernel_rfl,by decide +kernel,by kernel_rfl⟩):p:=h
theorem IT(f:Nat):RQ f (A0 f):=(S4 f 42 (S4 f 22 (S4 f 12 (S4 f 7 (S4 f 5 (S4 f 4 (R8 fo) (R8 fo)) (S4 f 6 (R8 fo) (R8 fo))) (S4 f 9 (S4 f 8 (R8 fo) (R8 fo)) (S4 f 10 (R8 fo) (S4 f 11 (R8 fo) (R8 fo))))) (S4 f 17 (S4 f 14 (S4 f 13 (R8 fo) (R8 fo)) (S4 f 15 (R8 fo) (S4 f 16 (R8 fo) (R8 fo)))) (S4 f 19 (S4 f 18 (R8 fo) (R8 fo)) (S4 f 20 (R8 fo) (S4 f 21 (R8 fo) (R8 fo)))))) (S4 f 32 (S4 f 27 (S4 f 24 (S4 f 23 (R8 fo) (R8 fo)) (S4 f 25 (R8 fo) (S4 f 26 (R8 fo) (R8 fo)))) (S4 f 29 (S4 f 28 (R8 fo) (R8 fo)) (S4 f 30 (R8 fo) (S4 f 31 (R8 fo) (R8 fo))))) (S4 f 37 (S4 f 34 (S4 f 33 (R8 fo) (R8 fo)) (S4 f 35 (R8 fo) (S4 f 36 (R8 fo) (R8 fo)))) (S4 f 39 (S4 f 38 (R8 fo) (R8 fo)) (S4 f 40 (R8 fo) (S4 f 41 (R8 fo) (R8 fo))))))) (S4 f 61 (S4 f 51 (S4 f 46 (S4 f 44 (S4 f 43 (R8 fo) (R8 fo)) (S4 f 45 (R8 fo) (R8 fo))) (S4 f 48 (S4 f 47 (R8 fo) (R8 fo)) (S4 f 49 (R8 fo) (S4 f 50 (R8 fo) (R8 fo))))) (S4 f 56 (S4 f 53 (S4 f 52 (R8 fo) (R8 fo)) (S4 f 54 (R8 fo) (S4 f 55 (R8 fo) (R8 fo)))) (S4 f 58 (S4 f 57 (R8 fo) (R8 fo)) (S4 f 59 (R8 fo) (S4 f 60 (R8 fo) (R8 fo)))))) (S4 f 72 (S4 f 66 (S4 f 63 (S4 f 62 (R8 fo) (R8 fo)) (S4 f 64 (R8 fo) (S4 f 65 (R8 fo) (R8 fo)))) (S4 f 68 (S4 f 67 (R8 fo) (R8 fo)) (S4 f 69 (R8 fo) (S4 f 70 (R8 fo) (R8 fo))))) (S4 f 77 (S4 f 74 (S4 f 73 (R8 fo) (R8 fo)) (S4 f 75 (R8 fo) (S4 f 76 (R8 fo) (R8 fo)))) (S4 f 79 (S4 f 78 (R8 fo) (R8 fo)) (S4 f 80 (R8 fo) (S4 f 82 (R8 fo) (R8 fo))))))))
theorem A2x(f:Nat)(p:PFn)(e:A0 f=zs p):FnOk env f p:=by
 have:=IT f
 rw[e]at this;exact this
theorem pe_ok:PEok ⟨env,T0,A0⟩:=⟨(fun g v e=>by cases (e:(zn:Option AV)=zs v)),tip,(fun f g e=>by cases (e:(zn:Option (List AV->Option (List AV)))=zs g)),A2x⟩
end Go.Proofs.AmEnv
