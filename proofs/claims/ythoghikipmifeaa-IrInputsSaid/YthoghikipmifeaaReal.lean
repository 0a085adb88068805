/- The tables are this program's. Conditions: none. -/
import Derived.Test.YthoghikipmifeaaGenB
import Derived.KernelRfl
import Derived.Shelf.Strings.Shaped
import Derived.Test.YthoghikipmifeaaProg
set_option linter.unusedVariables false
set_option linter.unusedSimpArgs false
set_option linter.unusedSectionVars false
set_option linter.defProp false
set_option maxRecDepth 100000
namespace Go.Proofs
open Go.Shelf
def Try.laysM144_ren:Go.Shelf.Ren:=⟨fun | 144=>63 | 143=>78 | 219=>87 | 217=>92 | 225=>93 | 224=>94 | 267=>95 | 266=>96 | 314=>97 | n=>n,fun | 9=>9 | 4=>4 | 3=>3 | 5=>5 | 46=>126 | 146=>132 | 51=>131 | n=>n,fun | 1=>0 | n=>n⟩
theorem Try.laysM144:Go.Proofs.LaysM.n144 Try.prog Try.laysM144_ren:={
 mixed:=by kernel_rfl
 f143:=Try.func78.trans (congrArg some (by kernel_rfl))
 f144:=Try.func63.trans (congrArg some (by kernel_rfl))
 f217:=Try.func92.trans (congrArg some (by kernel_rfl))
 f219:=Try.func87.trans (congrArg some (by kernel_rfl))
 f224:=Try.func94.trans (congrArg some (by kernel_rfl))
 f225:=Try.func93.trans (congrArg some (by kernel_rfl))
 f266:=Try.func96.trans (congrArg some (by kernel_rfl))
 f267:=Try.func95.trans (congrArg some (by kernel_rfl))
 f314:=Try.func97.trans (congrArg some (by kernel_rfl))
 t3:=Try.underlying3
 a3:=Try.isAgg3
 z3:=Try.sizeOf3
 v3:=Try.zeroValue3
 t4:=Try.underlying4
 a4:=Try.isAgg4
 z4:=Try.sizeOf4
 v4:=Try.zeroValue4
 t5:=Try.underlying5
 a5:=Try.isAgg5
 z5:=Try.sizeOf5
 v5:=Try.zeroValue5
 t9:=Try.underlying9
 a9:=Try.isAgg9
 z9:=Try.sizeOf9
 v9:=Try.zeroValue9
 t46:=Try.underlying126
 a46:=Try.isAgg126
 z46:=Try.sizeOf126
 v46:=Try.zeroValue126
 t51:=Try.underlying131
 a51:=Try.isAgg131
 z51:=Try.sizeOf131
 v51:=Try.zeroValue131
 t146:=Try.underlying132
 a146:=Try.isAgg132
 z146:=Try.sizeOf132
 v146:=Try.zeroValue132
 g1:=by kernel_rfl
 i3:=by kernel_rfl
 i4:=by kernel_rfl
 i5:=by kernel_rfl
 i9:=by kernel_rfl
 i46:=by kernel_rfl
 i51:=by kernel_rfl
 i146:=by kernel_rfl
 m1:=by kernel_rfl
 s1_3:=fun w h=>Go.Proofs.cell_of_shapedOpen_int (zero:=#[.int .i64 0]) (t:=3) h (of_decide_eq_true (by kernel_rfl)) (by kernel_rfl) rfl (by kernel_rfl) (by kernel_rfl) Try.underlying3 }
end Go.Proofs
namespace Go.Proofs.AmEnv
open Go Go.AM
theorem yR:∀ f ks,A0.dlf f=some ks->tT Try.prog f ks:=fun f ks h=>by cases (h:(none:Option (List Nat))=some ks)
theorem yS:∀ f k,A0.srt f k=true->tU Try.prog f k:=fun f k h=>by cases (h:false=true)
theorem yT:(List.range 114).map fn=(List.range 114).map (mH 947202806529636064283885520 Try.prog):=by kernel_rfl
def GP:AV->Bool
 | .int _ _ | .bool _ | .str _ | .nilptr | .nilsl | .nilfn | .niliface | .nilmap=>true
 | _=>false
noncomputable def JE (q:TI):Bool:=(match q.zero with | .agg cs=>cs.all GP | x=>GP x) && Nat.beq q.zero.cells.length q.size
theorem zfS_fz {Z:Nat->Prop} {h:Heap} {x:AV} (e:GP x=true):Fz Z h x x:=by
 cases x <;> first | exact .int _ _ | exact .bool _ | exact .str _ | exact .nilptr | exact .nilsl | exact .nilfn | exact .niliface | exact .nilmap | cases e
theorem tR {x:AV} (e:GP x=true):AM.clo x=true:=by
 cases x <;> first | rfl | cases e
theorem yU {q:TI} (e:JE q=true):(∀ Z h,Fz Z h q.zero q.zero)∧q.zero.cells.length=q.size:=by
 unfold JE at e
 rw [Bool.and_eq_true] at e
 refine ⟨fun Z h=>?_,Nat.eq_of_beq_eq_true e.2⟩
 have e:=e.1
 cases hz:q.zero with
 | agg cs =>
  rw [hz] at e
  have e:cs.all GP=true:=e
  rw [List.all_eq_true] at e
  exact .agg rfl (fun i x y hx hy=>by rw [hx] at hy; cases hy; exact zfS_fz (e x (List.mem_of_getElem? hx))) (List.all_eq_true.2 fun x hx=>tR (e x hx))
 | _=>rw [hz] at e; exact zfS_fz e
def GQ (f:Nat) (o:Option Go.AM.FI):Prop:=∀ x,o=some x->f < 114
theorem Z4 (t m:Nat) {a b:Option Go.AM.FI} (ha:GQ t a) (hb:GQ t b):GQ t (bif Nat.blt t m then a else b):=by cases Nat.blt t m <;> assumption
theorem Y8 {t m:Nat} {p:Go.AM.FI} (h:m < 114):GQ t (bif Nat.beq t m then some p else none):=by
 cases e:Nat.beq t m with
 | true=>rw [Nat.eq_of_beq_eq_true e]; exact fun _ _=>h
 | false=>intro x hx; cases hx
theorem GR (f:Nat):GQ f (fn f):=(Z4 f 42 (Z4 f 22 (Z4 f 11 (Z4 f 8 (Z4 f 6 (Y8 (by decide)) (Z4 f 7 (Y8 (by decide)) (Y8 (by decide)))) (Z4 f 9 (Y8 (by decide)) (Z4 f 10 (Y8 (by decide)) (Y8 (by decide))))) (Z4 f 14 (Z4 f 12 (Y8 (by decide)) (Z4 f 13 (Y8 (by decide)) (Y8 (by decide)))) (Z4 f 20 (Z4 f 19 (Y8 (by decide)) (Y8 (by decide))) (Z4 f 21 (Y8 (by decide)) (Y8 (by decide)))))) (Z4 f 35 (Z4 f 32 (Z4 f 23 (Y8 (by decide)) (Z4 f 24 (Y8 (by decide)) (Y8 (by decide)))) (Z4 f 33 (Y8 (by decide)) (Z4 f 34 (Y8 (by decide)) (Y8 (by decide))))) (Z4 f 38 (Z4 f 36 (Y8 (by decide)) (Z4 f 37 (Y8 (by decide)) (Y8 (by decide)))) (Z4 f 40 (Z4 f 39 (Y8 (by decide)) (Y8 (by decide))) (Z4 f 41 (Y8 (by decide)) (Y8 (by decide))))))) (Z4 f 66 (Z4 f 54 (Z4 f 51 (Z4 f 43 (Y8 (by decide)) (Z4 f 50 (Y8 (by decide)) (Y8 (by decide)))) (Z4 f 52 (Y8 (by decide)) (Z4 f 53 (Y8 (by decide)) (Y8 (by decide))))) (Z4 f 57 (Z4 f 55 (Y8 (by decide)) (Z4 f 56 (Y8 (by decide)) (Y8 (by decide)))) (Z4 f 64 (Z4 f 58 (Y8 (by decide)) (Y8 (by decide))) (Z4 f 65 (Y8 (by decide)) (Y8 (by decide)))))) (Z4 f 79 (Z4 f 69 (Z4 f 67 (Y8 (by decide)) (Z4 f 68 (Y8 (by decide)) (Y8 (by decide)))) (Z4 f 71 (Z4 f 70 (Y8 (by decide)) (Y8 (by decide))) (Z4 f 72 (Y8 (by decide)) (Y8 (by decide))))) (Z4 f 82 (Z4 f 80 (Y8 (by decide)) (Z4 f 81 (Y8 (by decide)) (Y8 (by decide)))) (Z4 f 88 (Z4 f 83 (Y8 (by decide)) (Y8 (by decide))) (Z4 f 89 (Y8 (by decide)) (Y8 (by decide))))))))
theorem tS (t:Nat) (h:114≤t):fn t=none:=by
 cases e:fn t with
 | none=>rfl
 | some x=>exact absurd (GR t x e) (by omega)
def GS (t:Nat) (o:Option TI):Prop:=∀ x,o=some x->rB Try.prog t=some x∧JE x=true
theorem s9 (t m:Nat) {a b:Option TI} (ha:GS t a) (hb:GS t b):GS t (bif Nat.blt t m then a else b):=by cases Nat.blt t m <;> assumption
theorem m6 {t m:Nat} {p:TI} (h:rB Try.prog m=some p) (hz:JE p=true):GS t (bif Nat.beq t m then some p else none):=by
 cases e:Nat.beq t m with
 | true=>rw [Nat.eq_of_beq_eq_true e]; intro x hx; cases hx; exact ⟨h,hz⟩
 | false=>intro x hx; cases hx
theorem qP (t:Nat):GS t (ti t):=(s9 t 49 (s9 t 30 (s9 t 21 (s9 t 4 (s9 t 3 (m6 (by kernel_rfl) rfl) (m6 (by kernel_rfl) rfl)) (s9 t 9 (m6 (by kernel_rfl) rfl) (s9 t 20 (m6 (by kernel_rfl) rfl) (m6 (by kernel_rfl) rfl)))) (s9 t 25 (s9 t 22 (m6 (by kernel_rfl) rfl) (s9 t 23 (m6 (by kernel_rfl) rfl) (m6 (by kernel_rfl) rfl))) (s9 t 26 (m6 (by kernel_rfl) rfl) (s9 t 28 (m6 (by kernel_rfl) rfl) (m6 (by kernel_rfl) rfl))))) (s9 t 38 (s9 t 33 (s9 t 32 (m6 (by kernel_rfl) rfl) (m6 (by kernel_rfl) rfl)) (s9 t 35 (m6 (by kernel_rfl) rfl) (s9 t 37 (m6 (by kernel_rfl) rfl) (m6 (by kernel_rfl) rfl)))) (s9 t 45 (s9 t 42 (m6 (by kernel_rfl) rfl) (s9 t 43 (m6 (by kernel_rfl) rfl) (m6 (by kernel_rfl) rfl))) (s9 t 46 (m6 (by kernel_rfl) rfl) (s9 t 47 (m6 (by kernel_rfl) rfl) (m6 (by kernel_rfl) rfl)))))) (s9 t 64 (s9 t 57 (s9 t 52 (s9 t 50 (m6 (by kernel_rfl) rfl) (m6 (by kernel_rfl) rfl)) (s9 t 54 (m6 (by kernel_rfl) rfl) (s9 t 56 (m6 (by kernel_rfl) rfl) (m6 (by kernel_rfl) rfl)))) (s9 t 61 (s9 t 59 (m6 (by kernel_rfl) rfl) (s9 t 60 (m6 (by kernel_rfl) rfl) (m6 (by kernel_rfl) rfl))) (s9 t 62 (m6 (by kernel_rfl) rfl) (s9 t 63 (m6 (by kernel_rfl) rfl) (m6 (by kernel_rfl) rfl))))) (s9 t 105 (s9 t 80 (s9 t 66 (m6 (by kernel_rfl) rfl) (s9 t 68 (m6 (by kernel_rfl) rfl) (m6 (by kernel_rfl) rfl))) (s9 t 94 (m6 (by kernel_rfl) rfl) (s9 t 97 (m6 (by kernel_rfl) rfl) (m6 (by kernel_rfl) rfl)))) (s9 t 113 (s9 t 109 (m6 (by kernel_rfl) rfl) (s9 t 110 (m6 (by kernel_rfl) rfl) (m6 (by kernel_rfl) rfl))) (s9 t 124 (m6 (by kernel_rfl) rfl) (s9 t 126 (m6 (by kernel_rfl) rfl) (m6 (by kernel_rfl) rfl)))))))
theorem UO:yG A0:=fun t q e=>yU (qP t q e).2
theorem env_ok:EnvOk A0 Try.prog:=⟨fun t x h=>rD (qP t x h).1,fun f x hx=>rF (mI (mJ yT tS hx)),(rG Go.Proofs.Try.laysM144 (fun f h=>C3 h) rfl),yR,yS,by kernel_rfl⟩
def GT (f:Nat):Option PFn->Prop
 | none=>True
 | some p=>FnOk A0 f p
theorem Z5 (f m:Nat) {a b:Option PFn} (ha:GT f a) (hb:GT f b):GT f (bif Nat.blt f m then a else b):=by cases Nat.blt f m <;> assumption
theorem Y9 {f m:Nat} {p:PFn} (h:FnOk A0 m p):GT f (bif Nat.beq f m then some p else none):=by
 cases e:Nat.beq f m with
 | true=>rw [Nat.eq_of_beq_eq_true e]; exact h
 | false=>trivial
theorem UP:FnOk A0 4 QR:=⟨rfl,rfl,rfl,fun _ _=>rfl,by kernel_rfl,by decide +kernel,by kernel_rfl⟩
theorem UQ:FnOk A0 6 QS:=⟨rfl,rfl,rfl,fun _ _=>rfl,by kernel_rfl,by decide +kernel,by kernel_rfl⟩
theorem UR:FnOk A0 7 QT:=⟨rfl,rfl,rfl,fun _ _=>rfl,by kernel_rfl,by decide +kernel,by kernel_rfl⟩
theorem US:FnOk A0 8 QU:=⟨rfl,rfl,rfl,fun _ _=>rfl,by kernel_rfl,by decide +kernel,by kernel_rfl⟩
theorem UT:FnOk A0 9 QV:=⟨rfl,rfl,rfl,fun _ _=>rfl,by kernel_rfl,by decide +kernel,by kernel_rfl⟩
theorem OM:FnOk A0 10 zV:=⟨rfl,rfl,rfl,fun _ _=>rfl,by kernel_rfl,by decide +kernel,by kernel_rfl⟩
theorem ON:FnOk A0 11 zW:=⟨rfl,rfl,rfl,fun _ _=>rfl,by kernel_rfl,by decide +kernel,by kernel_rfl⟩
theorem OO:FnOk A0 12 zX:=⟨rfl,rfl,rfl,fun _ _=>rfl,by kernel_rfl,by decide +kernel,by kernel_rfl⟩
theorem OP:FnOk A0 13 zY:=⟨rfl,rfl,rfl,fun _ _=>rfl,by kernel_rfl,by decide +kernel,by kernel_rfl⟩
theorem OQ:FnOk A0 14 zZ:=⟨rfl,rfl,rfl,fun _ _=>rfl,by kernel_rfl,by decide +kernel,by kernel_rfl⟩
theorem OR:FnOk A0 19 AA:=⟨rfl,rfl,rfl,fun _ _=>rfl,by kernel_rfl,by decide +kernel,by kernel_rfl⟩
theorem OS:FnOk A0 20 AB:=⟨rfl,rfl,rfl,fun _ _=>rfl,by kernel_rfl,by decide +kernel,by kernel_rfl⟩
theorem OT:FnOk A0 21 AC:=⟨rfl,rfl,rfl,fun _ _=>rfl,by kernel_rfl,by decide +kernel,by kernel_rfl⟩
theorem OU:FnOk A0 22 AE:=⟨rfl,rfl,rfl,fun _ _=>rfl,by kernel_rfl,by decide +kernel,by kernel_rfl⟩
theorem OV:FnOk A0 23 AF:=⟨rfl,rfl,rfl,fun _ _=>rfl,by kernel_rfl,by decide +kernel,by kernel_rfl⟩
theorem OW:FnOk A0 24 AG:=⟨rfl,rfl,rfl,fun _ _=>rfl,by kernel_rfl,by decide +kernel,by kernel_rfl⟩
theorem OX:FnOk A0 32 AH:=⟨rfl,rfl,rfl,fun _ _=>rfl,by kernel_rfl,by decide +kernel,by kernel_rfl⟩
theorem OY:FnOk A0 33 AI:=⟨rfl,rfl,rfl,fun _ _=>rfl,by kernel_rfl,by decide +kernel,by kernel_rfl⟩
theorem OZ:FnOk A0 34 AJ:=⟨rfl,rfl,rfl,fun _ _=>rfl,by kernel_rfl,by decide +kernel,by kernel_rfl⟩
theorem PA:FnOk A0 35 AK:=⟨rfl,rfl,rfl,fun _ _=>rfl,by kernel_rfl,by decide +kernel,by kernel_rfl⟩
theorem PB:FnOk A0 36 AL:=⟨rfl,rfl,rfl,fun _ _=>rfl,by kernel_rfl,by decide +kernel,by kernel_rfl⟩
theorem PD:FnOk A0 37 AN:=⟨rfl,rfl,rfl,fun _ _=>rfl,by kernel_rfl,by decide +kernel,by kernel_rfl⟩
theorem PG:FnOk A0 38 AP:=⟨rfl,rfl,rfl,fun _ _=>rfl,by kernel_rfl,by decide +kernel,by kernel_rfl⟩
theorem PH:FnOk A0 39 AQ:=⟨rfl,rfl,rfl,fun _ _=>rfl,by kernel_rfl,by decide +kernel,by kernel_rfl⟩
theorem PI:FnOk A0 40 AR:=⟨rfl,rfl,rfl,fun _ _=>rfl,by kernel_rfl,by decide +kernel,by kernel_rfl⟩
theorem PL:FnOk A0 41 AS:=⟨rfl,rfl,rfl,fun _ _=>rfl,by kernel_rfl,by decide +kernel,by kernel_rfl⟩
theorem PM:FnOk A0 42 AT:=⟨rfl,rfl,rfl,fun _ _=>rfl,by kernel_rfl,by decide +kernel,by kernel_rfl⟩
theorem PN:FnOk A0 43 AU:=⟨rfl,rfl,rfl,fun _ _=>rfl,by kernel_rfl,by decide +kernel,by kernel_rfl⟩
theorem PP:FnOk A0 50 AW:=⟨rfl,rfl,rfl,fun _ _=>rfl,by kernel_rfl,by decide +kernel,by kernel_rfl⟩
theorem PQ:FnOk A0 51 AX:=⟨rfl,rfl,rfl,fun _ _=>rfl,by kernel_rfl,by decide +kernel,by kernel_rfl⟩
theorem PS:FnOk A0 52 AY:=⟨rfl,rfl,rfl,fun _ _=>rfl,by kernel_rfl,by decide +kernel,by kernel_rfl⟩
theorem PU:FnOk A0 53 AZ:=⟨rfl,rfl,rfl,fun _ _=>rfl,by kernel_rfl,by decide +kernel,by kernel_rfl⟩
theorem PV:FnOk A0 54 BA:=⟨rfl,rfl,rfl,fun _ _=>rfl,by kernel_rfl,by decide +kernel,by kernel_rfl⟩
theorem PW:FnOk A0 55 BB:=⟨rfl,rfl,rfl,fun _ _=>rfl,by kernel_rfl,by decide +kernel,by kernel_rfl⟩
theorem PX:FnOk A0 56 BC:=⟨rfl,rfl,rfl,fun _ _=>rfl,by kernel_rfl,by decide +kernel,by kernel_rfl⟩
theorem PY:FnOk A0 57 BD:=⟨rfl,rfl,rfl,fun _ _=>rfl,by kernel_rfl,by decide +kernel,by kernel_rfl⟩
theorem PZ:FnOk A0 58 BE:=⟨rfl,rfl,rfl,fun _ _=>rfl,by kernel_rfl,by decide +kernel,by kernel_rfl⟩
theorem QA:FnOk A0 64 BF:=⟨rfl,rfl,rfl,fun _ _=>rfl,by kernel_rfl,by decide +kernel,by kernel_rfl⟩
theorem QB:FnOk A0 65 BG:=⟨rfl,rfl,rfl,fun _ _=>rfl,by kernel_rfl,by decide +kernel,by kernel_rfl⟩
theorem QC:FnOk A0 66 BH:=⟨rfl,rfl,rfl,fun _ _=>rfl,by kernel_rfl,by decide +kernel,by kernel_rfl⟩
theorem QD:FnOk A0 67 BI:=⟨rfl,rfl,rfl,fun _ _=>rfl,by kernel_rfl,by decide +kernel,by kernel_rfl⟩
theorem QE:FnOk A0 68 BJ:=⟨rfl,rfl,rfl,fun _ _=>rfl,by kernel_rfl,by decide +kernel,by kernel_rfl⟩
theorem QF:FnOk A0 69 BK:=⟨rfl,rfl,rfl,fun _ _=>rfl,by kernel_rfl,by decide +kernel,by kernel_rfl⟩
theorem QG:FnOk A0 70 BL:=⟨rfl,rfl,rfl,fun _ _=>rfl,by kernel_rfl,by decide +kernel,by kernel_rfl⟩
theorem QH:FnOk A0 71 BM:=⟨rfl,rfl,rfl,fun _ _=>rfl,by kernel_rfl,by decide +kernel,by kernel_rfl⟩
theorem QI:FnOk A0 72 BN:=⟨rfl,rfl,rfl,fun _ _=>rfl,by kernel_rfl,by decide +kernel,by kernel_rfl⟩
theorem QJ:FnOk A0 79 BO:=⟨rfl,rfl,rfl,fun _ _=>rfl,by kernel_rfl,by decide +kernel,by kernel_rfl⟩
theorem QK:FnOk A0 80 BP:=⟨rfl,rfl,rfl,fun _ _=>rfl,by kernel_rfl,by decide +kernel,by kernel_rfl⟩
theorem QL:FnOk A0 81 BQ:=⟨rfl,rfl,rfl,fun _ _=>rfl,by kernel_rfl,by decide +kernel,by kernel_rfl⟩
theorem QM:FnOk A0 82 BR:=⟨rfl,rfl,rfl,fun _ _=>rfl,by kernel_rfl,by decide +kernel,by kernel_rfl⟩
theorem QN:FnOk A0 83 BS:=⟨rfl,rfl,rfl,fun _ _=>rfl,by kernel_rfl,by decide +kernel,by kernel_rfl⟩
theorem QO:FnOk A0 88 BT:=⟨rfl,rfl,rfl,fun _ _=>rfl,by kernel_rfl,by decide +kernel,by kernel_rfl⟩
theorem QP:FnOk A0 89 BU:=⟨rfl,rfl,rfl,fun _ _=>rfl,by kernel_rfl,by decide +kernel,by kernel_rfl⟩
theorem yV (f:Nat):GT f (A4 f):=(Z5 f 42 (Z5 f 22 (Z5 f 11 (Z5 f 8 (Z5 f 6 (Y9 UP) (Z5 f 7 (Y9 UQ) (Y9 UR))) (Z5 f 9 (Y9 US) (Z5 f 10 (Y9 UT) (Y9 OM)))) (Z5 f 14 (Z5 f 12 (Y9 ON) (Z5 f 13 (Y9 OO) (Y9 OP))) (Z5 f 20 (Z5 f 19 (Y9 OQ) (Y9 OR)) (Z5 f 21 (Y9 OS) (Y9 OT))))) (Z5 f 35 (Z5 f 32 (Z5 f 23 (Y9 OU) (Z5 f 24 (Y9 OV) (Y9 OW))) (Z5 f 33 (Y9 OX) (Z5 f 34 (Y9 OY) (Y9 OZ)))) (Z5 f 38 (Z5 f 36 (Y9 PA) (Z5 f 37 (Y9 PB) (Y9 PD))) (Z5 f 40 (Z5 f 39 (Y9 PG) (Y9 PH)) (Z5 f 41 (Y9 PI) (Y9 PL)))))) (Z5 f 66 (Z5 f 54 (Z5 f 51 (Z5 f 43 (Y9 PM) (Z5 f 50 (Y9 PN) (Y9 PP))) (Z5 f 52 (Y9 PQ) (Z5 f 53 (Y9 PS) (Y9 PU)))) (Z5 f 57 (Z5 f 55 (Y9 PV) (Z5 f 56 (Y9 PW) (Y9 PX))) (Z5 f 64 (Z5 f 58 (Y9 PY) (Y9 PZ)) (Z5 f 65 (Y9 QA) (Y9 QB))))) (Z5 f 79 (Z5 f 69 (Z5 f 67 (Y9 QC) (Z5 f 68 (Y9 QD) (Y9 QE))) (Z5 f 71 (Z5 f 70 (Y9 QF) (Y9 QG)) (Z5 f 72 (Y9 QH) (Y9 QI)))) (Z5 f 82 (Z5 f 80 (Y9 QJ) (Z5 f 81 (Y9 QK) (Y9 QL))) (Z5 f 88 (Z5 f 83 (Y9 QM) (Y9 QN)) (Z5 f 89 (Y9 QO) (Y9 QP)))))))
theorem QQ (f:Nat) (p:PFn) (e:A4 f=some p):FnOk A0 f p:=by
 have:=yV f
 rw [e] at this
 exact this
theorem pe_ok:PEok ⟨A0,T0,A4⟩:=⟨(fun g v e=>by cases (e:(none:Option AV)=some v)),UO,(fun f g e=>by cases (e:(none:Option (List AV->Option (List AV)))=some g)),QQ⟩
end Go.Proofs.AmEnv
