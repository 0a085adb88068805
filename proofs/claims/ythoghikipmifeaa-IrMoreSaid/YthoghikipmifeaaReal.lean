/- The tables are this program's. Conditions: none. -/
import Derived.Test.YthoghikipmifeaaGenB
import Derived.KernelRfl
import Derived.Shelf.Strings.Shaped
import Derived.Test.YthoghikipmifeaaProg
set_option linter.unusedVariables false
set_option linter.unusedSimpArgs false
set_option linter.unusedSectionVars false
set_option linter.defProp false
set_option maxRecDepth 100000
namespace Go.Proofs
open Go.Shelf
def Try.laysM144_ren:Go.Shelf.Ren:=⟨fun | 144=>63 | 143=>78 | 219=>87 | 217=>92 | 225=>93 | 224=>94 | 267=>95 | 266=>96 | 314=>97 | n=>n,fun | 9=>9 | 4=>4 | 3=>3 | 5=>5 | 46=>126 | 146=>132 | 51=>131 | n=>n,fun | 1=>0 | n=>n⟩
theorem Try.laysM144:Go.Proofs.LaysM.n144 Try.prog Try.laysM144_ren:={
 mixed:=by kernel_rfl
 f143:=Try.func78.trans (congrArg some (by kernel_rfl))
 f144:=Try.func63.trans (congrArg some (by kernel_rfl))
 f217:=Try.func92.trans (congrArg some (by kernel_rfl))
 f219:=Try.func87.trans (congrArg some (by kernel_rfl))
 f224:=Try.func94.trans (congrArg some (by kernel_rfl))
 f225:=Try.func93.trans (congrArg some (by kernel_rfl))
 f266:=Try.func96.trans (congrArg some (by kernel_rfl))
 f267:=Try.func95.trans (congrArg some (by kernel_rfl))
 f314:=Try.func97.trans (congrArg some (by kernel_rfl))
 t3:=Try.underlying3
 a3:=Try.isAgg3
 z3:=Try.sizeOf3
 v3:=Try.zeroValue3
 t4:=Try.underlying4
 a4:=Try.isAgg4
 z4:=Try.sizeOf4
 v4:=Try.zeroValue4
 t5:=Try.underlying5
 a5:=Try.isAgg5
 z5:=Try.sizeOf5
 v5:=Try.zeroValue5
 t9:=Try.underlying9
 a9:=Try.isAgg9
 z9:=Try.sizeOf9
 v9:=Try.zeroValue9
 t46:=Try.underlying126
 a46:=Try.isAgg126
 z46:=Try.sizeOf126
 v46:=Try.zeroValue126
 t51:=Try.underlying131
 a51:=Try.isAgg131
 z51:=Try.sizeOf131
 v51:=Try.zeroValue131
 t146:=Try.underlying132
 a146:=Try.isAgg132
 z146:=Try.sizeOf132
 v146:=Try.zeroValue132
 g1:=by kernel_rfl
 i3:=by kernel_rfl
 i4:=by kernel_rfl
 i5:=by kernel_rfl
 i9:=by kernel_rfl
 i46:=by kernel_rfl
 i51:=by kernel_rfl
 i146:=by kernel_rfl
 m1:=by kernel_rfl
 s1_3:=fun w h=>Go.Proofs.cell_of_shapedOpen_int (zero:=#[.int .i64 0]) (t:=3) h (of_decide_eq_true (by kernel_rfl)) (by kernel_rfl) rfl (by kernel_rfl) (by kernel_rfl) Try.underlying3 }
end Go.Proofs
namespace Go.Proofs.AmEnv
open Go Go.AM
theorem yA:∀ f ks,A0.dlf f=some ks->tA Try.prog f ks:=fun f ks h=>by cases (h:(none:Option (List Nat))=some ks)
theorem yB:∀ f k,A0.srt f k=true->tB Try.prog f k:=fun f k h=>by cases (h:false=true)
theorem yC:(List.range 114).map fn=(List.range 114).map (lS 947202806529636064283860936 Try.prog):=by kernel_rfl
def FQ:AV->Bool
 | .int _ _ | .bool _ | .str _ | .nilptr | .nilsl | .nilfn | .niliface | .nilmap=>true
 | _=>false
noncomputable def IB (q:TI):Bool:=(match q.zero with | .agg cs=>cs.all FQ | x=>FQ x) && Nat.beq q.zero.cells.length q.size
theorem zfS_fz {Z:Nat->Prop} {h:Heap} {x:AV} (e:FQ x=true):Fz Z h x x:=by
 cases x <;> first | exact .int _ _ | exact .bool _ | exact .str _ | exact .nilptr | exact .nilsl | exact .nilfn | exact .niliface | exact .nilmap | cases e
theorem sY {x:AV} (e:FQ x=true):AM.clo x=true:=by
 cases x <;> first | rfl | cases e
theorem yD {q:TI} (e:IB q=true):(∀ Z h,Fz Z h q.zero q.zero)∧q.zero.cells.length=q.size:=by
 unfold IB at e
 rw [Bool.and_eq_true] at e
 refine ⟨fun Z h=>?_,Nat.eq_of_beq_eq_true e.2⟩
 have e:=e.1
 cases hz:q.zero with
 | agg cs =>
  rw [hz] at e
  have e:cs.all FQ=true:=e
  rw [List.all_eq_true] at e
  exact .agg rfl (fun i x y hx hy=>by rw [hx] at hy; cases hy; exact zfS_fz (e x (List.mem_of_getElem? hx))) (List.all_eq_true.2 fun x hx=>sY (e x hx))
 | _=>rw [hz] at e; exact zfS_fz e
def FR (f:Nat) (o:Option Go.AM.FI):Prop:=∀ x,o=some x->f < 114
theorem Z9 (t m:Nat) {a b:Option Go.AM.FI} (ha:FR t a) (hb:FR t b):FR t (bif Nat.blt t m then a else b):=by cases Nat.blt t m <;> assumption
theorem Z5 {t m:Nat} {p:Go.AM.FI} (h:m < 114):FR t (bif Nat.beq t m then some p else none):=by
 cases e:Nat.beq t m with
 | true=>rw [Nat.eq_of_beq_eq_true e]; exact fun _ _=>h
 | false=>intro x hx; cases hx
theorem FS (f:Nat):FR f (fn f):=(Z9 f 43 (Z9 f 23 (Z9 f 11 (Z9 f 8 (Z9 f 6 (Z5 (by decide)) (Z9 f 7 (Z5 (by decide)) (Z5 (by decide)))) (Z9 f 9 (Z5 (by decide)) (Z9 f 10 (Z5 (by decide)) (Z5 (by decide))))) (Z9 f 20 (Z9 f 12 (Z5 (by decide)) (Z9 f 19 (Z5 (by decide)) (Z5 (by decide)))) (Z9 f 21 (Z5 (by decide)) (Z9 f 22 (Z5 (by decide)) (Z5 (by decide)))))) (Z9 f 36 (Z9 f 33 (Z9 f 24 (Z5 (by decide)) (Z9 f 32 (Z5 (by decide)) (Z5 (by decide)))) (Z9 f 34 (Z5 (by decide)) (Z9 f 35 (Z5 (by decide)) (Z5 (by decide))))) (Z9 f 39 (Z9 f 37 (Z5 (by decide)) (Z9 f 38 (Z5 (by decide)) (Z5 (by decide)))) (Z9 f 41 (Z9 f 40 (Z5 (by decide)) (Z5 (by decide))) (Z9 f 42 (Z5 (by decide)) (Z5 (by decide))))))) (Z9 f 67 (Z9 f 55 (Z9 f 52 (Z9 f 50 (Z5 (by decide)) (Z9 f 51 (Z5 (by decide)) (Z5 (by decide)))) (Z9 f 53 (Z5 (by decide)) (Z9 f 54 (Z5 (by decide)) (Z5 (by decide))))) (Z9 f 58 (Z9 f 56 (Z5 (by decide)) (Z9 f 57 (Z5 (by decide)) (Z5 (by decide)))) (Z9 f 65 (Z9 f 64 (Z5 (by decide)) (Z5 (by decide))) (Z9 f 66 (Z5 (by decide)) (Z5 (by decide)))))) (Z9 f 79 (Z9 f 70 (Z9 f 68 (Z5 (by decide)) (Z9 f 69 (Z5 (by decide)) (Z5 (by decide)))) (Z9 f 71 (Z5 (by decide)) (Z9 f 72 (Z5 (by decide)) (Z5 (by decide))))) (Z9 f 82 (Z9 f 80 (Z5 (by decide)) (Z9 f 81 (Z5 (by decide)) (Z5 (by decide)))) (Z9 f 88 (Z9 f 83 (Z5 (by decide)) (Z5 (by decide))) (Z9 f 89 (Z5 (by decide)) (Z5 (by decide))))))))
theorem sZ (t:Nat) (h:114≤t):fn t=none:=by
 cases e:fn t with
 | none=>rfl
 | some x=>exact absurd (FS t x e) (by omega)
def FT (t:Nat) (o:Option TI):Prop:=∀ x,o=some x->qM Try.prog t=some x∧IB x=true
theorem s5 (t m:Nat) {a b:Option TI} (ha:FT t a) (hb:FT t b):FT t (bif Nat.blt t m then a else b):=by cases Nat.blt t m <;> assumption
theorem m0 {t m:Nat} {p:TI} (h:qM Try.prog m=some p) (hz:IB p=true):FT t (bif Nat.beq t m then some p else none):=by
 cases e:Nat.beq t m with
 | true=>rw [Nat.eq_of_beq_eq_true e]; intro x hx; cases hx; exact ⟨h,hz⟩
 | false=>intro x hx; cases hx
theorem qA (t:Nat):FT t (ti t):=(s5 t 49 (s5 t 30 (s5 t 21 (s5 t 4 (s5 t 3 (m0 (by kernel_rfl) rfl) (m0 (by kernel_rfl) rfl)) (s5 t 9 (m0 (by kernel_rfl) rfl) (s5 t 20 (m0 (by kernel_rfl) rfl) (m0 (by kernel_rfl) rfl)))) (s5 t 25 (s5 t 22 (m0 (by kernel_rfl) rfl) (s5 t 23 (m0 (by kernel_rfl) rfl) (m0 (by kernel_rfl) rfl))) (s5 t 26 (m0 (by kernel_rfl) rfl) (s5 t 28 (m0 (by kernel_rfl) rfl) (m0 (by kernel_rfl) rfl))))) (s5 t 38 (s5 t 33 (s5 t 32 (m0 (by kernel_rfl) rfl) (m0 (by kernel_rfl) rfl)) (s5 t 35 (m0 (by kernel_rfl) rfl) (s5 t 37 (m0 (by kernel_rfl) rfl) (m0 (by kernel_rfl) rfl)))) (s5 t 45 (s5 t 42 (m0 (by kernel_rfl) rfl) (s5 t 43 (m0 (by kernel_rfl) rfl) (m0 (by kernel_rfl) rfl))) (s5 t 46 (m0 (by kernel_rfl) rfl) (s5 t 47 (m0 (by kernel_rfl) rfl) (m0 (by kernel_rfl) rfl)))))) (s5 t 64 (s5 t 57 (s5 t 52 (s5 t 50 (m0 (by kernel_rfl) rfl) (m0 (by kernel_rfl) rfl)) (s5 t 54 (m0 (by kernel_rfl) rfl) (s5 t 56 (m0 (by kernel_rfl) rfl) (m0 (by kernel_rfl) rfl)))) (s5 t 61 (s5 t 59 (m0 (by kernel_rfl) rfl) (s5 t 60 (m0 (by kernel_rfl) rfl) (m0 (by kernel_rfl) rfl))) (s5 t 62 (m0 (by kernel_rfl) rfl) (s5 t 63 (m0 (by kernel_rfl) rfl) (m0 (by kernel_rfl) rfl))))) (s5 t 105 (s5 t 80 (s5 t 66 (m0 (by kernel_rfl) rfl) (s5 t 68 (m0 (by kernel_rfl) rfl) (m0 (by kernel_rfl) rfl))) (s5 t 94 (m0 (by kernel_rfl) rfl) (s5 t 97 (m0 (by kernel_rfl) rfl) (m0 (by kernel_rfl) rfl)))) (s5 t 113 (s5 t 109 (m0 (by kernel_rfl) rfl) (s5 t 110 (m0 (by kernel_rfl) rfl) (m0 (by kernel_rfl) rfl))) (s5 t 124 (m0 (by kernel_rfl) rfl) (s5 t 126 (m0 (by kernel_rfl) rfl) (m0 (by kernel_rfl) rfl)))))))
theorem SW:xO A0:=fun t q e=>yD (qA t q e).2
theorem env_ok:EnvOk A0 Try.prog:=⟨fun t x h=>qO (qA t x h).1,fun f x hx=>qQ (lT (lU yC sZ hx)),(qR Go.Proofs.Try.laysM144 (fun f h=>C1 h) rfl),yA,yB,by kernel_rfl⟩
def FU (f:Nat):Option PFn->Prop
 | none=>True
 | some p=>FnOk A0 f p
theorem a8 (f m:Nat) {a b:Option PFn} (ha:FU f a) (hb:FU f b):FU f (bif Nat.blt f m then a else b):=by cases Nat.blt f m <;> assumption
theorem Z6 {f m:Nat} {p:PFn} (h:FnOk A0 m p):FU f (bif Nat.beq f m then some p else none):=by
 cases e:Nat.beq f m with
 | true=>rw [Nat.eq_of_beq_eq_true e]; exact h
 | false=>trivial
theorem SX:FnOk A0 3 PA:=⟨rfl,rfl,rfl,fun _ _=>rfl,by kernel_rfl,by decide +kernel,by kernel_rfl⟩
theorem SZ:FnOk A0 6 PB:=⟨rfl,rfl,rfl,fun _ _=>rfl,by kernel_rfl,by decide +kernel,by kernel_rfl⟩
theorem TA:FnOk A0 7 PD:=⟨rfl,rfl,rfl,fun _ _=>rfl,by kernel_rfl,by decide +kernel,by kernel_rfl⟩
theorem TB:FnOk A0 8 PG:=⟨rfl,rfl,rfl,fun _ _=>rfl,by kernel_rfl,by decide +kernel,by kernel_rfl⟩
theorem TE:FnOk A0 9 PH:=⟨rfl,rfl,rfl,fun _ _=>rfl,by kernel_rfl,by decide +kernel,by kernel_rfl⟩
theorem NE:FnOk A0 10 zD:=⟨rfl,rfl,rfl,fun _ _=>rfl,by kernel_rfl,by decide +kernel,by kernel_rfl⟩
theorem NF:FnOk A0 11 zE:=⟨rfl,rfl,rfl,fun _ _=>rfl,by kernel_rfl,by decide +kernel,by kernel_rfl⟩
theorem NG:FnOk A0 12 zF:=⟨rfl,rfl,rfl,fun _ _=>rfl,by kernel_rfl,by decide +kernel,by kernel_rfl⟩
theorem NH:FnOk A0 19 zG:=⟨rfl,rfl,rfl,fun _ _=>rfl,by kernel_rfl,by decide +kernel,by kernel_rfl⟩
theorem NI:FnOk A0 20 zH:=⟨rfl,rfl,rfl,fun _ _=>rfl,by kernel_rfl,by decide +kernel,by kernel_rfl⟩
theorem NJ:FnOk A0 21 zI:=⟨rfl,rfl,rfl,fun _ _=>rfl,by kernel_rfl,by decide +kernel,by kernel_rfl⟩
theorem NK:FnOk A0 22 zK:=⟨rfl,rfl,rfl,fun _ _=>rfl,by kernel_rfl,by decide +kernel,by kernel_rfl⟩
theorem NL:FnOk A0 23 zL:=⟨rfl,rfl,rfl,fun _ _=>rfl,by kernel_rfl,by decide +kernel,by kernel_rfl⟩
theorem NM:FnOk A0 24 zM:=⟨rfl,rfl,rfl,fun _ _=>rfl,by kernel_rfl,by decide +kernel,by kernel_rfl⟩
theorem NN:FnOk A0 32 zN:=⟨rfl,rfl,rfl,fun _ _=>rfl,by kernel_rfl,by decide +kernel,by kernel_rfl⟩
theorem NO:FnOk A0 33 zO:=⟨rfl,rfl,rfl,fun _ _=>rfl,by kernel_rfl,by decide +kernel,by kernel_rfl⟩
theorem NP:FnOk A0 34 zP:=⟨rfl,rfl,rfl,fun _ _=>rfl,by kernel_rfl,by decide +kernel,by kernel_rfl⟩
theorem NQ:FnOk A0 35 zQ:=⟨rfl,rfl,rfl,fun _ _=>rfl,by kernel_rfl,by decide +kernel,by kernel_rfl⟩
theorem NR:FnOk A0 36 zR:=⟨rfl,rfl,rfl,fun _ _=>rfl,by kernel_rfl,by decide +kernel,by kernel_rfl⟩
theorem NS:FnOk A0 37 zS:=⟨rfl,rfl,rfl,fun _ _=>rfl,by kernel_rfl,by decide +kernel,by kernel_rfl⟩
theorem NT:FnOk A0 38 zU:=⟨rfl,rfl,rfl,fun _ _=>rfl,by kernel_rfl,by decide +kernel,by kernel_rfl⟩
theorem NU:FnOk A0 39 zV:=⟨rfl,rfl,rfl,fun _ _=>rfl,by kernel_rfl,by decide +kernel,by kernel_rfl⟩
theorem NV:FnOk A0 40 zW:=⟨rfl,rfl,rfl,fun _ _=>rfl,by kernel_rfl,by decide +kernel,by kernel_rfl⟩
theorem NW:FnOk A0 41 zX:=⟨rfl,rfl,rfl,fun _ _=>rfl,by kernel_rfl,by decide +kernel,by kernel_rfl⟩
theorem NX:FnOk A0 42 zY:=⟨rfl,rfl,rfl,fun _ _=>rfl,by kernel_rfl,by decide +kernel,by kernel_rfl⟩
theorem NY:FnOk A0 43 zZ:=⟨rfl,rfl,rfl,fun _ _=>rfl,by kernel_rfl,by decide +kernel,by kernel_rfl⟩
theorem NZ:FnOk A0 50 AA:=⟨rfl,rfl,rfl,fun _ _=>rfl,by kernel_rfl,by decide +kernel,by kernel_rfl⟩
theorem OA:FnOk A0 51 AB:=⟨rfl,rfl,rfl,fun _ _=>rfl,by kernel_rfl,by decide +kernel,by kernel_rfl⟩
theorem OB:FnOk A0 52 AC:=⟨rfl,rfl,rfl,fun _ _=>rfl,by kernel_rfl,by decide +kernel,by kernel_rfl⟩
theorem OC:FnOk A0 53 AD:=⟨rfl,rfl,rfl,fun _ _=>rfl,by kernel_rfl,by decide +kernel,by kernel_rfl⟩
theorem OD:FnOk A0 54 AE:=⟨rfl,rfl,rfl,fun _ _=>rfl,by kernel_rfl,by decide +kernel,by kernel_rfl⟩
theorem OE:FnOk A0 55 AF:=⟨rfl,rfl,rfl,fun _ _=>rfl,by kernel_rfl,by decide +kernel,by kernel_rfl⟩
theorem OF:FnOk A0 56 AG:=⟨rfl,rfl,rfl,fun _ _=>rfl,by kernel_rfl,by decide +kernel,by kernel_rfl⟩
theorem OG:FnOk A0 57 AH:=⟨rfl,rfl,rfl,fun _ _=>rfl,by kernel_rfl,by decide +kernel,by kernel_rfl⟩
theorem OH:FnOk A0 58 AI:=⟨rfl,rfl,rfl,fun _ _=>rfl,by kernel_rfl,by decide +kernel,by kernel_rfl⟩
theorem OI:FnOk A0 64 AJ:=⟨rfl,rfl,rfl,fun _ _=>rfl,by kernel_rfl,by decide +kernel,by kernel_rfl⟩
theorem OJ:FnOk A0 65 AK:=⟨rfl,rfl,rfl,fun _ _=>rfl,by kernel_rfl,by decide +kernel,by kernel_rfl⟩
theorem OL:FnOk A0 66 AL:=⟨rfl,rfl,rfl,fun _ _=>rfl,by kernel_rfl,by decide +kernel,by kernel_rfl⟩
theorem OM:FnOk A0 67 AN:=⟨rfl,rfl,rfl,fun _ _=>rfl,by kernel_rfl,by decide +kernel,by kernel_rfl⟩
theorem ON:FnOk A0 68 AO:=⟨rfl,rfl,rfl,fun _ _=>rfl,by kernel_rfl,by decide +kernel,by kernel_rfl⟩
theorem OO:FnOk A0 69 AP:=⟨rfl,rfl,rfl,fun _ _=>rfl,by kernel_rfl,by decide +kernel,by kernel_rfl⟩
theorem OP:FnOk A0 70 AQ:=⟨rfl,rfl,rfl,fun _ _=>rfl,by kernel_rfl,by decide +kernel,by kernel_rfl⟩
theorem OQ:FnOk A0 71 AR:=⟨rfl,rfl,rfl,fun _ _=>rfl,by kernel_rfl,by decide +kernel,by kernel_rfl⟩
theorem OR:FnOk A0 72 AS:=⟨rfl,rfl,rfl,fun _ _=>rfl,by kernel_rfl,by decide +kernel,by kernel_rfl⟩
theorem OS:FnOk A0 79 AT:=⟨rfl,rfl,rfl,fun _ _=>rfl,by kernel_rfl,by decide +kernel,by kernel_rfl⟩
theorem OT:FnOk A0 80 AU:=⟨rfl,rfl,rfl,fun _ _=>rfl,by kernel_rfl,by decide +kernel,by kernel_rfl⟩
theorem OU:FnOk A0 81 AW:=⟨rfl,rfl,rfl,fun _ _=>rfl,by kernel_rfl,by decide +kernel,by kernel_rfl⟩
theorem OV:FnOk A0 82 AX:=⟨rfl,rfl,rfl,fun _ _=>rfl,by kernel_rfl,by decide +kernel,by kernel_rfl⟩
theorem OW:FnOk A0 83 AY:=⟨rfl,rfl,rfl,fun _ _=>rfl,by kernel_rfl,by decide +kernel,by kernel_rfl⟩
theorem OX:FnOk A0 88 AZ:=⟨rfl,rfl,rfl,fun _ _=>rfl,by kernel_rfl,by decide +kernel,by kernel_rfl⟩
theorem OY:FnOk A0 89 BA:=⟨rfl,rfl,rfl,fun _ _=>rfl,by kernel_rfl,by decide +kernel,by kernel_rfl⟩
theorem yE (f:Nat):FU f (A6 f):=(a8 f 43 (a8 f 23 (a8 f 11 (a8 f 8 (a8 f 6 (Z6 SX) (a8 f 7 (Z6 SZ) (Z6 TA))) (a8 f 9 (Z6 TB) (a8 f 10 (Z6 TE) (Z6 NE)))) (a8 f 20 (a8 f 12 (Z6 NF) (a8 f 19 (Z6 NG) (Z6 NH))) (a8 f 21 (Z6 NI) (a8 f 22 (Z6 NJ) (Z6 NK))))) (a8 f 36 (a8 f 33 (a8 f 24 (Z6 NL) (a8 f 32 (Z6 NM) (Z6 NN))) (a8 f 34 (Z6 NO) (a8 f 35 (Z6 NP) (Z6 NQ)))) (a8 f 39 (a8 f 37 (Z6 NR) (a8 f 38 (Z6 NS) (Z6 NT))) (a8 f 41 (a8 f 40 (Z6 NU) (Z6 NV)) (a8 f 42 (Z6 NW) (Z6 NX)))))) (a8 f 67 (a8 f 55 (a8 f 52 (a8 f 50 (Z6 NY) (a8 f 51 (Z6 NZ) (Z6 OA))) (a8 f 53 (Z6 OB) (a8 f 54 (Z6 OC) (Z6 OD)))) (a8 f 58 (a8 f 56 (Z6 OE) (a8 f 57 (Z6 OF) (Z6 OG))) (a8 f 65 (a8 f 64 (Z6 OH) (Z6 OI)) (a8 f 66 (Z6 OJ) (Z6 OL))))) (a8 f 79 (a8 f 70 (a8 f 68 (Z6 OM) (a8 f 69 (Z6 ON) (Z6 OO))) (a8 f 71 (Z6 OP) (a8 f 72 (Z6 OQ) (Z6 OR)))) (a8 f 82 (a8 f 80 (Z6 OS) (a8 f 81 (Z6 OT) (Z6 OU))) (a8 f 88 (a8 f 83 (Z6 OV) (Z6 OW)) (a8 f 89 (Z6 OX) (Z6 OY)))))))
theorem OZ (f:Nat) (p:PFn) (e:A6 f=some p):FnOk A0 f p:=by
 have:=yE f
 rw [e] at this
 exact this
theorem pe_ok:PEok ⟨A0,T0,A6⟩:=⟨(fun g v e=>by cases (e:(none:Option AV)=some v)),SW,(fun f g e=>by cases (e:(none:Option (List AV->Option (List AV)))=some g)),OZ⟩
end Go.Proofs.AmEnv
