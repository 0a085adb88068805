/- The tables are this program's. Conditions: none. -/
import Derived.Test.YtionlfkdpjgpjaaGenB
import Derived.KernelRfl
import Derived.Shelf.Strings.Shaped
import Derived.Test.YtionlfkdpjgpjaaProg
set_option linter.unusedVariables false
set_option linter.unusedSimpArgs false
set_option linter.unusedSectionVars false
set_option linter.defProp false
set_option maxRecDepth 100000
namespace Go.Proofs
open Go.Shelf
def Try.laysM144_ren:Go.Shelf.Ren:=⟨fun | 144=>245 | 143=>263 | 219=>270 | 217=>282 | 225=>283 | 224=>284 | 267=>285 | 266=>292 | 314=>293 | n=>n,fun | 9=>9 | 4=>4 | 3=>3 | 5=>5 | 46=>235 | 146=>252 | 51=>251 | n=>n,fun | 1=>0 | n=>n⟩
theorem Try.laysM144:Go.Proofs.LaysM.n144 Try.prog Try.laysM144_ren:={
 mixed:=by kernel_rfl
 f143:=Try.func263.trans (congrArg some (by kernel_rfl))
 f144:=Try.func245.trans (congrArg some (by kernel_rfl))
 f217:=Try.func282.trans (congrArg some (by kernel_rfl))
 f219:=Try.func270.trans (congrArg some (by kernel_rfl))
 f224:=Try.func284.trans (congrArg some (by kernel_rfl))
 f225:=Try.func283.trans (congrArg some (by kernel_rfl))
 f266:=Try.func292.trans (congrArg some (by kernel_rfl))
 f267:=Try.func285.trans (congrArg some (by kernel_rfl))
 f314:=Try.func293.trans (congrArg some (by kernel_rfl))
 t3:=Try.underlying3
 a3:=Try.isAgg3
 z3:=Try.sizeOf3
 v3:=Try.zeroValue3
 t4:=Try.underlying4
 a4:=Try.isAgg4
 z4:=Try.sizeOf4
 v4:=Try.zeroValue4
 t5:=Try.underlying5
 a5:=Try.isAgg5
 z5:=Try.sizeOf5
 v5:=Try.zeroValue5
 t9:=Try.underlying9
 a9:=Try.isAgg9
 z9:=Try.sizeOf9
 v9:=Try.zeroValue9
 t46:=Try.underlying235
 a46:=Try.isAgg235
 z46:=Try.sizeOf235
 v46:=Try.zeroValue235
 t51:=Try.underlying251
 a51:=Try.isAgg251
 z51:=Try.sizeOf251
 v51:=Try.zeroValue251
 t146:=Try.underlying252
 a146:=Try.isAgg252
 z146:=Try.sizeOf252
 v146:=Try.zeroValue252
 g1:=by kernel_rfl
 i3:=by kernel_rfl
 i4:=by kernel_rfl
 i5:=by kernel_rfl
 i9:=by kernel_rfl
 i46:=by kernel_rfl
 i51:=by kernel_rfl
 i146:=by kernel_rfl
 m1:=by kernel_rfl
 s1_3:=fun w h=>Go.Proofs.cell_of_shapedOpen_int (zero:=#[.int .i64 0]) (t:=3) h (of_decide_eq_true (by kernel_rfl)) (by kernel_rfl) rfl (by kernel_rfl) (by kernel_rfl) Try.underlying3 }
end Go.Proofs
namespace Go.Proofs.AmEnv
open Go Go.AM
theorem uC:∀ f ks,A0.dlf f=some ks->oX Try.prog f ks:=fun f ks h=>by cases (h:(none:Option (List Nat))=some ks)
theorem uD:∀ f k,A0.srt f k=true->oY Try.prog f k:=fun f k h=>by cases (h:false=true)
theorem uE:(List.range 311).map fn=(List.range 311).map (gZ 37056984581705298499735481468105491847309395055564061000559186371678880502824976 Try.prog):=by kernel_rfl
def BA:AV->Bool
 | .int _ _ | .bool _ | .str _ | .nilptr | .nilsl | .nilfn | .niliface | .nilmap=>true
 | _=>false
noncomputable def DX (q:TI):Bool:=(match q.zero with | .agg cs=>cs.all BA | x=>BA x) && Nat.beq q.zero.cells.length q.size
theorem zfS_fz {Z:Nat->Prop} {h:Heap} {x:AV} (e:BA x=true):Fz Z h x x:=by
 cases x <;> first | exact .int _ _ | exact .bool _ | exact .str _ | exact .nilptr | exact .nilsl | exact .nilfn | exact .niliface | exact .nilmap | cases e
theorem oU {x:AV} (e:BA x=true):AM.clo x=true:=by
 cases x <;> first | rfl | cases e
theorem uF {q:TI} (e:DX q=true):(∀ Z h,Fz Z h q.zero q.zero)∧q.zero.cells.length=q.size:=by
 unfold DX at e
 rw [Bool.and_eq_true] at e
 refine ⟨fun Z h=>?_,Nat.eq_of_beq_eq_true e.2⟩
 have e:=e.1
 cases hz:q.zero with
 | agg cs =>
  rw [hz] at e
  have e:cs.all BA=true:=e
  rw [List.all_eq_true] at e
  exact .agg rfl (fun i x y hx hy=>by rw [hx] at hy; cases hy; exact zfS_fz (e x (List.mem_of_getElem? hx))) (List.all_eq_true.2 fun x hx=>oU (e x hx))
 | _=>rw [hz] at e; exact zfS_fz e
def BB (f:Nat) (o:Option Go.AM.FI):Prop:=∀ x,o=some x->f < 311
theorem W5 (t m:Nat) {a b:Option Go.AM.FI} (ha:BB t a) (hb:BB t b):BB t (bif Nat.blt t m then a else b):=by cases Nat.blt t m <;> assumption
theorem V9 {t m:Nat} {p:Go.AM.FI} (h:m < 311):BB t (bif Nat.beq t m then some p else none):=by
 cases e:Nat.beq t m with
 | true=>rw [Nat.eq_of_beq_eq_true e]; exact fun _ _=>h
 | false=>intro x hx; cases hx
theorem BC (f:Nat):BB f (fn f):=(W5 f 158 (W5 f 67 (W5 f 22 (W5 f 17 (W5 f 14 (V9 (by decide)) (W5 f 15 (V9 (by decide)) (V9 (by decide)))) (W5 f 19 (V9 (by decide)) (W5 f 21 (V9 (by decide)) (V9 (by decide))))) (W5 f 40 (W5 f 23 (V9 (by decide)) (W5 f 39 (V9 (by decide)) (V9 (by decide)))) (W5 f 65 (V9 (by decide)) (W5 f 66 (V9 (by decide)) (V9 (by decide)))))) (W5 f 75 (W5 f 71 (W5 f 68 (V9 (by decide)) (W5 f 70 (V9 (by decide)) (V9 (by decide)))) (W5 f 72 (V9 (by decide)) (W5 f 73 (V9 (by decide)) (V9 (by decide))))) (W5 f 111 (W5 f 78 (V9 (by decide)) (W5 f 108 (V9 (by decide)) (V9 (by decide)))) (W5 f 113 (W5 f 112 (V9 (by decide)) (V9 (by decide))) (W5 f 157 (V9 (by decide)) (V9 (by decide))))))) (W5 f 222 (W5 f 177 (W5 f 174 (W5 f 162 (V9 (by decide)) (W5 f 170 (V9 (by decide)) (V9 (by decide)))) (W5 f 175 (V9 (by decide)) (W5 f 176 (V9 (by decide)) (V9 (by decide))))) (W5 f 216 (W5 f 178 (V9 (by decide)) (W5 f 182 (V9 (by decide)) (V9 (by decide)))) (W5 f 218 (W5 f 217 (V9 (by decide)) (V9 (by decide))) (W5 f 221 (V9 (by decide)) (V9 (by decide)))))) (W5 f 246 (W5 f 225 (W5 f 223 (V9 (by decide)) (W5 f 224 (V9 (by decide)) (V9 (by decide)))) (W5 f 241 (V9 (by decide)) (W5 f 242 (V9 (by decide)) (V9 (by decide))))) (W5 f 249 (W5 f 247 (V9 (by decide)) (W5 f 248 (V9 (by decide)) (V9 (by decide)))) (W5 f 262 (W5 f 250 (V9 (by decide)) (V9 (by decide))) (W5 f 264 (V9 (by decide)) (V9 (by decide))))))))
theorem oV (t:Nat) (h:311≤t):fn t=none:=by
 cases e:fn t with
 | none=>rfl
 | some x=>exact absurd (BC t x e) (by omega)
def BD (t:Nat) (o:Option TI):Prop:=∀ x,o=some x->lV Try.prog t=some x∧DX x=true
theorem m8 (t m:Nat) {a b:Option TI} (ha:BD t a) (hb:BD t b):BD t (bif Nat.blt t m then a else b):=by cases Nat.blt t m <;> assumption
theorem m7 {t m:Nat} {p:TI} (h:lV Try.prog m=some p) (hz:DX p=true):BD t (bif Nat.beq t m then some p else none):=by
 cases e:Nat.beq t m with
 | true=>rw [Nat.eq_of_beq_eq_true e]; intro x hx; cases hx; exact ⟨h,hz⟩
 | false=>intro x hx; cases hx
theorem lK (t:Nat):BD t (ti t):=(m8 t 55 (m8 t 32 (m8 t 23 (m8 t 9 (m8 t 4 (m7 (by kernel_rfl) rfl) (m7 (by kernel_rfl) rfl)) (m8 t 21 (m7 (by kernel_rfl) rfl) (m8 t 22 (m7 (by kernel_rfl) rfl) (m7 (by kernel_rfl) rfl)))) (m8 t 28 (m8 t 25 (m7 (by kernel_rfl) rfl) (m7 (by kernel_rfl) rfl)) (m8 t 29 (m7 (by kernel_rfl) rfl) (m8 t 31 (m7 (by kernel_rfl) rfl) (m7 (by kernel_rfl) rfl))))) (m8 t 41 (m8 t 37 (m8 t 33 (m7 (by kernel_rfl) rfl) (m7 (by kernel_rfl) rfl)) (m8 t 38 (m7 (by kernel_rfl) rfl) (m8 t 39 (m7 (by kernel_rfl) rfl) (m7 (by kernel_rfl) rfl)))) (m8 t 45 (m8 t 42 (m7 (by kernel_rfl) rfl) (m8 t 43 (m7 (by kernel_rfl) rfl) (m7 (by kernel_rfl) rfl))) (m8 t 47 (m7 (by kernel_rfl) rfl) (m8 t 54 (m7 (by kernel_rfl) rfl) (m7 (by kernel_rfl) rfl)))))) (m8 t 110 (m8 t 82 (m8 t 62 (m8 t 61 (m7 (by kernel_rfl) rfl) (m7 (by kernel_rfl) rfl)) (m8 t 66 (m7 (by kernel_rfl) rfl) (m8 t 77 (m7 (by kernel_rfl) rfl) (m7 (by kernel_rfl) rfl)))) (m8 t 97 (m8 t 94 (m7 (by kernel_rfl) rfl) (m8 t 96 (m7 (by kernel_rfl) rfl) (m7 (by kernel_rfl) rfl))) (m8 t 105 (m7 (by kernel_rfl) rfl) (m8 t 109 (m7 (by kernel_rfl) rfl) (m7 (by kernel_rfl) rfl))))) (m8 t 161 (m8 t 116 (m8 t 113 (m7 (by kernel_rfl) rfl) (m7 (by kernel_rfl) rfl)) (m8 t 122 (m7 (by kernel_rfl) rfl) (m8 t 124 (m7 (by kernel_rfl) rfl) (m7 (by kernel_rfl) rfl)))) (m8 t 220 (m8 t 163 (m7 (by kernel_rfl) rfl) (m8 t 170 (m7 (by kernel_rfl) rfl) (m7 (by kernel_rfl) rfl))) (m8 t 223 (m7 (by kernel_rfl) rfl) (m8 t 225 (m7 (by kernel_rfl) rfl) (m7 (by kernel_rfl) rfl)))))))
theorem LV:uJ A0:=fun t q e=>uF (lK t q e).2
theorem env_ok:EnvOk A0 Try.prog:=⟨fun t x h=>lX (lK t x h).1,fun f x hx=>lZ (hH (hO uE oV hx)),(mA Go.Proofs.Try.laysM144 (fun f h=>beq_true h) rfl),uC,uD,by kernel_rfl⟩
def BE (f:Nat):Option PFn->Prop
 | none=>True
 | some p=>FnOk A0 f p
theorem W6 (f m:Nat) {a b:Option PFn} (ha:BE f a) (hb:BE f b):BE f (bif Nat.blt f m then a else b):=by cases Nat.blt f m <;> assumption
theorem W3 {f m:Nat} {p:PFn} (h:FnOk A0 m p):BE f (bif Nat.beq f m then some p else none):=by
 cases e:Nat.beq f m with
 | true=>rw [Nat.eq_of_beq_eq_true e]; exact h
 | false=>trivial
theorem LW:FnOk A0 4 IQ:=⟨rfl,rfl,rfl,fun _ _=>rfl,by kernel_rfl,by decide +kernel,by kernel_rfl⟩
theorem HU:FnOk A0 14 vH:=⟨rfl,rfl,rfl,fun _ _=>rfl,by kernel_rfl,by decide +kernel,by kernel_rfl⟩
theorem HV:FnOk A0 15 vI:=⟨rfl,rfl,rfl,fun _ _=>rfl,by kernel_rfl,by decide +kernel,by kernel_rfl⟩
theorem HW:FnOk A0 17 vJ:=⟨rfl,rfl,rfl,fun _ _=>rfl,by kernel_rfl,by decide +kernel,by kernel_rfl⟩
theorem HX:FnOk A0 19 vK:=⟨rfl,rfl,rfl,fun _ _=>rfl,by kernel_rfl,by decide +kernel,by kernel_rfl⟩
theorem HY:FnOk A0 21 vL:=⟨rfl,rfl,rfl,fun _ _=>rfl,by kernel_rfl,by decide +kernel,by kernel_rfl⟩
theorem HZ:FnOk A0 22 vM:=⟨rfl,rfl,rfl,fun _ _=>rfl,by kernel_rfl,by decide +kernel,by kernel_rfl⟩
theorem IA:FnOk A0 23 vN:=⟨rfl,rfl,rfl,fun _ _=>rfl,by kernel_rfl,by decide +kernel,by kernel_rfl⟩
theorem IB:FnOk A0 39 vO:=⟨rfl,rfl,rfl,fun _ _=>rfl,by kernel_rfl,by decide +kernel,by kernel_rfl⟩
theorem ID:FnOk A0 40 vP:=⟨rfl,rfl,rfl,fun _ _=>rfl,by kernel_rfl,by decide +kernel,by kernel_rfl⟩
theorem IE:FnOk A0 65 vQ:=⟨rfl,rfl,rfl,fun _ _=>rfl,by kernel_rfl,by decide +kernel,by kernel_rfl⟩
theorem IF:FnOk A0 66 vR:=⟨rfl,rfl,rfl,fun _ _=>rfl,by kernel_rfl,by decide +kernel,by kernel_rfl⟩
theorem IG:FnOk A0 67 vS:=⟨rfl,rfl,rfl,fun _ _=>rfl,by kernel_rfl,by decide +kernel,by kernel_rfl⟩
theorem IH:FnOk A0 68 vT:=⟨rfl,rfl,rfl,fun _ _=>rfl,by kernel_rfl,by decide +kernel,by kernel_rfl⟩
theorem II:FnOk A0 70 vU:=⟨rfl,rfl,rfl,fun _ _=>rfl,by kernel_rfl,by decide +kernel,by kernel_rfl⟩
theorem IJ:FnOk A0 71 vV:=⟨rfl,rfl,rfl,fun _ _=>rfl,by kernel_rfl,by decide +kernel,by kernel_rfl⟩
theorem IK:FnOk A0 72 vW:=⟨rfl,rfl,rfl,fun _ _=>rfl,by kernel_rfl,by decide +kernel,by kernel_rfl⟩
theorem IL:FnOk A0 73 vX:=⟨rfl,rfl,rfl,fun _ _=>rfl,by kernel_rfl,by decide +kernel,by kernel_rfl⟩
theorem IM:FnOk A0 75 vY:=⟨rfl,rfl,rfl,fun _ _=>rfl,by kernel_rfl,by decide +kernel,by kernel_rfl⟩
theorem IN:FnOk A0 78 vZ:=⟨rfl,rfl,rfl,fun _ _=>rfl,by kernel_rfl,by decide +kernel,by kernel_rfl⟩
theorem BF:FnOk A0 108 qF:=⟨rfl,rfl,rfl,fun _ _=>rfl,by kernel_rfl,by decide +kernel,by kernel_rfl⟩
theorem BG:FnOk A0 111 qG:=⟨rfl,rfl,rfl,fun _ _=>rfl,by kernel_rfl,by decide +kernel,by kernel_rfl⟩
theorem BH:FnOk A0 112 qH:=⟨rfl,rfl,rfl,fun _ _=>rfl,by kernel_rfl,by decide +kernel,by kernel_rfl⟩
theorem BI:FnOk A0 113 qI:=⟨rfl,rfl,rfl,fun _ _=>rfl,by kernel_rfl,by decide +kernel,by kernel_rfl⟩
theorem BJ:FnOk A0 157 qJ:=⟨rfl,rfl,rfl,fun _ _=>rfl,by kernel_rfl,by decide +kernel,by kernel_rfl⟩
theorem BK:FnOk A0 158 qK:=⟨rfl,rfl,rfl,fun _ _=>rfl,by kernel_rfl,by decide +kernel,by kernel_rfl⟩
theorem BL:FnOk A0 162 qL:=⟨rfl,rfl,rfl,fun _ _=>rfl,by kernel_rfl,by decide +kernel,by kernel_rfl⟩
theorem BM:FnOk A0 170 qM:=⟨rfl,rfl,rfl,fun _ _=>rfl,by kernel_rfl,by decide +kernel,by kernel_rfl⟩
theorem BO:FnOk A0 174 qN:=⟨rfl,rfl,rfl,fun _ _=>rfl,by kernel_rfl,by decide +kernel,by kernel_rfl⟩
theorem BP:FnOk A0 175 qO:=⟨rfl,rfl,rfl,fun _ _=>rfl,by kernel_rfl,by decide +kernel,by kernel_rfl⟩
theorem BQ:FnOk A0 176 qP:=⟨rfl,rfl,rfl,fun _ _=>rfl,by kernel_rfl,by decide +kernel,by kernel_rfl⟩
theorem BR:FnOk A0 177 qQ:=⟨rfl,rfl,rfl,fun _ _=>rfl,by kernel_rfl,by decide +kernel,by kernel_rfl⟩
theorem BS:FnOk A0 178 qR:=⟨rfl,rfl,rfl,fun _ _=>rfl,by kernel_rfl,by decide +kernel,by kernel_rfl⟩
theorem BT:FnOk A0 182 qS:=⟨rfl,rfl,rfl,fun _ _=>rfl,by kernel_rfl,by decide +kernel,by kernel_rfl⟩
theorem BU:FnOk A0 216 qT:=⟨rfl,rfl,rfl,fun _ _=>rfl,by kernel_rfl,by decide +kernel,by kernel_rfl⟩
theorem BV:FnOk A0 217 qU:=⟨rfl,rfl,rfl,fun _ _=>rfl,by kernel_rfl,by decide +kernel,by kernel_rfl⟩
theorem BW:FnOk A0 218 qV:=⟨rfl,rfl,rfl,fun _ _=>rfl,by kernel_rfl,by decide +kernel,by kernel_rfl⟩
theorem BX:FnOk A0 221 qW:=⟨rfl,rfl,rfl,fun _ _=>rfl,by kernel_rfl,by decide +kernel,by kernel_rfl⟩
theorem BY:FnOk A0 222 qX:=⟨rfl,rfl,rfl,fun _ _=>rfl,by kernel_rfl,by decide +kernel,by kernel_rfl⟩
theorem BZ:FnOk A0 223 qY:=⟨rfl,rfl,rfl,fun _ _=>rfl,by kernel_rfl,by decide +kernel,by kernel_rfl⟩
theorem CA:FnOk A0 224 qZ:=⟨rfl,rfl,rfl,fun _ _=>rfl,by kernel_rfl,by decide +kernel,by kernel_rfl⟩
theorem CB:FnOk A0 225 rA:=⟨rfl,rfl,rfl,fun _ _=>rfl,by kernel_rfl,by decide +kernel,by kernel_rfl⟩
theorem CC:FnOk A0 241 rB:=⟨rfl,rfl,rfl,fun _ _=>rfl,by kernel_rfl,by decide +kernel,by kernel_rfl⟩
theorem CD:FnOk A0 242 rC:=⟨rfl,rfl,rfl,fun _ _=>rfl,by kernel_rfl,by decide +kernel,by kernel_rfl⟩
theorem CE:FnOk A0 246 rD:=⟨rfl,rfl,rfl,fun _ _=>rfl,by kernel_rfl,by decide +kernel,by kernel_rfl⟩
theorem CF:FnOk A0 247 rE:=⟨rfl,rfl,rfl,fun _ _=>rfl,by kernel_rfl,by decide +kernel,by kernel_rfl⟩
theorem CG:FnOk A0 248 rF:=⟨rfl,rfl,rfl,fun _ _=>rfl,by kernel_rfl,by decide +kernel,by kernel_rfl⟩
theorem CH:FnOk A0 249 rG:=⟨rfl,rfl,rfl,fun _ _=>rfl,by kernel_rfl,by decide +kernel,by kernel_rfl⟩
theorem CI:FnOk A0 250 rH:=⟨rfl,rfl,rfl,fun _ _=>rfl,by kernel_rfl,by decide +kernel,by kernel_rfl⟩
theorem CJ:FnOk A0 262 rI:=⟨rfl,rfl,rfl,fun _ _=>rfl,by kernel_rfl,by decide +kernel,by kernel_rfl⟩
theorem CK:FnOk A0 264 rJ:=⟨rfl,rfl,rfl,fun _ _=>rfl,by kernel_rfl,by decide +kernel,by kernel_rfl⟩
theorem uG (f:Nat):BE f (A3 f):=(W6 f 158 (W6 f 67 (W6 f 22 (W6 f 17 (W6 f 14 (W3 LW) (W6 f 15 (W3 HU) (W3 HV))) (W6 f 19 (W3 HW) (W6 f 21 (W3 HX) (W3 HY)))) (W6 f 40 (W6 f 23 (W3 HZ) (W6 f 39 (W3 IA) (W3 IB))) (W6 f 65 (W3 ID) (W6 f 66 (W3 IE) (W3 IF))))) (W6 f 75 (W6 f 71 (W6 f 68 (W3 IG) (W6 f 70 (W3 IH) (W3 II))) (W6 f 72 (W3 IJ) (W6 f 73 (W3 IK) (W3 IL)))) (W6 f 111 (W6 f 78 (W3 IM) (W6 f 108 (W3 IN) (W3 BF))) (W6 f 113 (W6 f 112 (W3 BG) (W3 BH)) (W6 f 157 (W3 BI) (W3 BJ)))))) (W6 f 222 (W6 f 177 (W6 f 174 (W6 f 162 (W3 BK) (W6 f 170 (W3 BL) (W3 BM))) (W6 f 175 (W3 BO) (W6 f 176 (W3 BP) (W3 BQ)))) (W6 f 216 (W6 f 178 (W3 BR) (W6 f 182 (W3 BS) (W3 BT))) (W6 f 218 (W6 f 217 (W3 BU) (W3 BV)) (W6 f 221 (W3 BW) (W3 BX))))) (W6 f 246 (W6 f 225 (W6 f 223 (W3 BY) (W6 f 224 (W3 BZ) (W3 CA))) (W6 f 241 (W3 CB) (W6 f 242 (W3 CC) (W3 CD)))) (W6 f 249 (W6 f 247 (W3 CE) (W6 f 248 (W3 CF) (W3 CG))) (W6 f 262 (W6 f 250 (W3 CH) (W3 CI)) (W6 f 264 (W3 CJ) (W3 CK)))))))
theorem IP (f:Nat) (p:PFn) (e:A3 f=some p):FnOk A0 f p:=by
 have:=uG f
 rw [e] at this
 exact this
theorem pe_ok:PEok ⟨A0,T0,A3⟩:=⟨(fun g v e=>by cases (e:(none:Option AV)=some v)),LV,(fun f g e=>by cases (e:(none:Option (List AV->Option (List AV)))=some g)),IP⟩
end Go.Proofs.AmEnv
