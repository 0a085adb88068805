/- The tables are this program's. Conditions: none. -/
import Derived.Test.YtionlfkdpjgpjaaGenB
import Derived.KernelRfl
import Derived.Shelf.Strings.Shaped
import Derived.Test.YtionlfkdpjgpjaaProg
set_option linter.unusedVariables false
set_option linter.unusedSimpArgs false
set_option linter.unusedSectionVars false
set_option linter.defProp false
set_option maxRecDepth 100000
namespace Go.Proofs
open Go.Shelf
def Try.laysM144_ren:Go.Shelf.Ren:=⟨fun | 144=>245 | 143=>263 | 219=>270 | 217=>282 | 225=>283 | 224=>284 | 267=>285 | 266=>292 | 314=>293 | n=>n,fun | 9=>9 | 4=>4 | 3=>3 | 5=>5 | 46=>235 | 146=>252 | 51=>251 | n=>n,fun | 1=>0 | n=>n⟩
theorem Try.laysM144:Go.Proofs.LaysM.n144 Try.prog Try.laysM144_ren:={
 mixed:=by kernel_rfl
 f143:=Try.func263.trans (congrArg some (by kernel_rfl))
 f144:=Try.func245.trans (congrArg some (by kernel_rfl))
 f217:=Try.func282.trans (congrArg some (by kernel_rfl))
 f219:=Try.func270.trans (congrArg some (by kernel_rfl))
 f224:=Try.func284.trans (congrArg some (by kernel_rfl))
 f225:=Try.func283.trans (congrArg some (by kernel_rfl))
 f266:=Try.func292.trans (congrArg some (by kernel_rfl))
 f267:=Try.func285.trans (congrArg some (by kernel_rfl))
 f314:=Try.func293.trans (congrArg some (by kernel_rfl))
 t3:=Try.underlying3
 a3:=Try.isAgg3
 z3:=Try.sizeOf3
 v3:=Try.zeroValue3
 t4:=Try.underlying4
 a4:=Try.isAgg4
 z4:=Try.sizeOf4
 v4:=Try.zeroValue4
 t5:=Try.underlying5
 a5:=Try.isAgg5
 z5:=Try.sizeOf5
 v5:=Try.zeroValue5
 t9:=Try.underlying9
 a9:=Try.isAgg9
 z9:=Try.sizeOf9
 v9:=Try.zeroValue9
 t46:=Try.underlying235
 a46:=Try.isAgg235
 z46:=Try.sizeOf235
 v46:=Try.zeroValue235
 t51:=Try.underlying251
 a51:=Try.isAgg251
 z51:=Try.sizeOf251
 v51:=Try.zeroValue251
 t146:=Try.underlying252
 a146:=Try.isAgg252
 z146:=Try.sizeOf252
 v146:=Try.zeroValue252
 g1:=by kernel_rfl
 i3:=by kernel_rfl
 i4:=by kernel_rfl
 i5:=by kernel_rfl
 i9:=by kernel_rfl
 i46:=by kernel_rfl
 i51:=by kernel_rfl
 i146:=by kernel_rfl
 m1:=by kernel_rfl
 s1_3:=fun w h=>Go.Proofs.cell_of_shapedOpen_int (zero:=#[.int .i64 0]) (t:=3) h (of_decide_eq_true (by kernel_rfl)) (by kernel_rfl) rfl (by kernel_rfl) (by kernel_rfl) Try.underlying3 }
end Go.Proofs
namespace Go.Proofs.AmEnv
open Go Go.AM
theorem yZ:∀ f ks,A0.dlf f=some ks->tY Try.prog f ks:=fun f ks h=>by cases (h:(none:Option (List Nat))=some ks)
theorem zA:∀ f k,A0.srt f k=true->tZ Try.prog f k:=fun f k h=>by cases (h:false=true)
theorem zB:(List.range 311).map fn=(List.range 311).map (mA 29646280269433936136279673347437922722899152004048307031395955420297280463323264 Try.prog):=by kernel_rfl
def GH:AV->Bool
 | .int _ _ | .bool _ | .str _ | .nilptr | .nilsl | .nilfn | .niliface | .nilmap=>true
 | _=>false
noncomputable def JF (q:TI):Bool:=(match q.zero with | .agg cs=>cs.all GH | x=>GH x) && Nat.beq q.zero.cells.length q.size
theorem zfS_fz {Z:Nat->Prop} {h:Heap} {x:AV} (e:GH x=true):Fz Z h x x:=by
 cases x <;> first | exact .int _ _ | exact .bool _ | exact .str _ | exact .nilptr | exact .nilsl | exact .nilfn | exact .niliface | exact .nilmap | cases e
theorem tU {x:AV} (e:GH x=true):AM.clo x=true:=by
 cases x <;> first | rfl | cases e
theorem zC {q:TI} (e:JF q=true):(∀ Z h,Fz Z h q.zero q.zero)∧q.zero.cells.length=q.size:=by
 unfold JF at e
 rw [Bool.and_eq_true] at e
 refine ⟨fun Z h=>?_,Nat.eq_of_beq_eq_true e.2⟩
 have e:=e.1
 cases hz:q.zero with
 | agg cs =>
  rw [hz] at e
  have e:cs.all GH=true:=e
  rw [List.all_eq_true] at e
  exact .agg rfl (fun i x y hx hy=>by rw [hx] at hy; cases hy; exact zfS_fz (e x (List.mem_of_getElem? hx))) (List.all_eq_true.2 fun x hx=>tU (e x hx))
 | _=>rw [hz] at e; exact zfS_fz e
def GI (f:Nat) (o:Option Go.AM.FI):Prop:=∀ x,o=some x->f < 311
theorem w6 (t m:Nat) {a b:Option Go.AM.FI} (ha:GI t a) (hb:GI t b):GI t (bif Nat.blt t m then a else b):=by cases Nat.blt t m <;> assumption
theorem r9 {t m:Nat} {p:Go.AM.FI} (h:m < 311):GI t (bif Nat.beq t m then some p else none):=by
 cases e:Nat.beq t m with
 | true=>rw [Nat.eq_of_beq_eq_true e]; exact fun _ _=>h
 | false=>intro x hx; cases hx
theorem GJ (f:Nat):GI f (fn f):=(w6 f 125 (w6 f 99 (w6 f 39 (w6 f 32 (w6 f 14 (r9 (by decide)) (r9 (by decide))) (w6 f 33 (r9 (by decide)) (w6 f 35 (r9 (by decide)) (r9 (by decide))))) (w6 f 70 (w6 f 40 (r9 (by decide)) (w6 f 61 (r9 (by decide)) (r9 (by decide)))) (w6 f 97 (r9 (by decide)) (w6 f 98 (r9 (by decide)) (r9 (by decide)))))) (w6 f 106 (w6 f 101 (w6 f 100 (r9 (by decide)) (r9 (by decide))) (w6 f 102 (r9 (by decide)) (w6 f 105 (r9 (by decide)) (r9 (by decide))))) (w6 f 111 (w6 f 107 (r9 (by decide)) (w6 f 108 (r9 (by decide)) (r9 (by decide)))) (w6 f 112 (r9 (by decide)) (w6 f 113 (r9 (by decide)) (r9 (by decide))))))) (w6 f 188 (w6 f 174 (w6 f 168 (w6 f 162 (r9 (by decide)) (r9 (by decide))) (w6 f 169 (r9 (by decide)) (w6 f 170 (r9 (by decide)) (r9 (by decide))))) (w6 f 177 (w6 f 175 (r9 (by decide)) (w6 f 176 (r9 (by decide)) (r9 (by decide)))) (w6 f 178 (r9 (by decide)) (w6 f 182 (r9 (by decide)) (r9 (by decide)))))) (w6 f 246 (w6 f 223 (w6 f 221 (r9 (by decide)) (w6 f 222 (r9 (by decide)) (r9 (by decide)))) (w6 f 224 (r9 (by decide)) (w6 f 225 (r9 (by decide)) (r9 (by decide))))) (w6 f 249 (w6 f 247 (r9 (by decide)) (w6 f 248 (r9 (by decide)) (r9 (by decide)))) (w6 f 250 (r9 (by decide)) (w6 f 264 (r9 (by decide)) (r9 (by decide))))))))
theorem tV (t:Nat) (h:311≤t):fn t=none:=by
 cases e:fn t with
 | none=>rfl
 | some x=>exact absurd (GJ t x e) (by omega)
def GK (t:Nat) (o:Option TI):Prop:=∀ x,o=some x->qS Try.prog t=some x∧JF x=true
theorem As (t m:Nat) {a b:Option TI} (ha:GK t a) (hb:GK t b):GK t (bif Nat.blt t m then a else b):=by cases Nat.blt t m <;> assumption
theorem Ar {t m:Nat} {p:TI} (h:qS Try.prog m=some p) (hz:JF p=true):GK t (bif Nat.beq t m then some p else none):=by
 cases e:Nat.beq t m with
 | true=>rw [Nat.eq_of_beq_eq_true e]; intro x hx; cases hx; exact ⟨h,hz⟩
 | false=>intro x hx; cases hx
theorem qA (t:Nat):GK t (ti t):=(As t 48 (As t 32 (As t 23 (As t 9 (As t 4 (Ar (by kernel_rfl) rfl) (Ar (by kernel_rfl) rfl)) (As t 21 (Ar (by kernel_rfl) rfl) (As t 22 (Ar (by kernel_rfl) rfl) (Ar (by kernel_rfl) rfl)))) (As t 28 (As t 25 (Ar (by kernel_rfl) rfl) (Ar (by kernel_rfl) rfl)) (As t 29 (Ar (by kernel_rfl) rfl) (As t 31 (Ar (by kernel_rfl) rfl) (Ar (by kernel_rfl) rfl))))) (As t 41 (As t 37 (As t 33 (Ar (by kernel_rfl) rfl) (Ar (by kernel_rfl) rfl)) (As t 38 (Ar (by kernel_rfl) rfl) (As t 39 (Ar (by kernel_rfl) rfl) (Ar (by kernel_rfl) rfl)))) (As t 43 (As t 42 (Ar (by kernel_rfl) rfl) (Ar (by kernel_rfl) rfl)) (As t 45 (Ar (by kernel_rfl) rfl) (As t 47 (Ar (by kernel_rfl) rfl) (Ar (by kernel_rfl) rfl)))))) (As t 105 (As t 66 (As t 55 (As t 54 (Ar (by kernel_rfl) rfl) (Ar (by kernel_rfl) rfl)) (As t 61 (Ar (by kernel_rfl) rfl) (As t 62 (Ar (by kernel_rfl) rfl) (Ar (by kernel_rfl) rfl)))) (As t 94 (As t 77 (Ar (by kernel_rfl) rfl) (Ar (by kernel_rfl) rfl)) (As t 96 (Ar (by kernel_rfl) rfl) (As t 97 (Ar (by kernel_rfl) rfl) (Ar (by kernel_rfl) rfl))))) (As t 116 (As t 110 (As t 109 (Ar (by kernel_rfl) rfl) (Ar (by kernel_rfl) rfl)) (As t 112 (Ar (by kernel_rfl) rfl) (As t 113 (Ar (by kernel_rfl) rfl) (Ar (by kernel_rfl) rfl)))) (As t 170 (As t 122 (Ar (by kernel_rfl) rfl) (As t 124 (Ar (by kernel_rfl) rfl) (Ar (by kernel_rfl) rfl))) (As t 223 (Ar (by kernel_rfl) rfl) (As t 225 (Ar (by kernel_rfl) rfl) (Ar (by kernel_rfl) rfl)))))))
theorem OZ:zH A0:=fun t q e=>zC (qA t q e).2
theorem env_ok:EnvOk A0 Try.prog:=⟨fun t x h=>qU (qA t x h).1,fun f x hx=>qW (mB (mC zB tV hx)),(qX Go.Proofs.Try.laysM144 (fun f h=>beq_true h) rfl),yZ,zA,by kernel_rfl⟩
def GL (f:Nat):Option PFn->Prop
 | none=>True
 | some p=>FnOk A0 f p
theorem w7 (f m:Nat) {a b:Option PFn} (ha:GL f a) (hb:GL f b):GL f (bif Nat.blt f m then a else b):=by cases Nat.blt f m <;> assumption
theorem s3 {f m:Nat} {p:PFn} (h:FnOk A0 m p):GL f (bif Nat.beq f m then some p else none):=by
 cases e:Nat.beq f m with
 | true=>rw [Nat.eq_of_beq_eq_true e]; exact h
 | false=>trivial
theorem PA:FnOk A0 7 MK:=⟨rfl,rfl,rfl,fun _ _=>rfl,by kernel_rfl,by decide +kernel,by kernel_rfl⟩
theorem LY:FnOk A0 14 zT:=⟨rfl,rfl,rfl,fun _ _=>rfl,by kernel_rfl,by decide +kernel,by kernel_rfl⟩
theorem LZ:FnOk A0 32 zU:=⟨rfl,rfl,rfl,fun _ _=>rfl,by kernel_rfl,by decide +kernel,by kernel_rfl⟩
theorem MA:FnOk A0 33 zV:=⟨rfl,rfl,rfl,fun _ _=>rfl,by kernel_rfl,by decide +kernel,by kernel_rfl⟩
theorem MB:FnOk A0 35 zW:=⟨rfl,rfl,rfl,fun _ _=>rfl,by kernel_rfl,by decide +kernel,by kernel_rfl⟩
theorem MC:FnOk A0 39 zX:=⟨rfl,rfl,rfl,fun _ _=>rfl,by kernel_rfl,by decide +kernel,by kernel_rfl⟩
theorem MD:FnOk A0 40 zY:=⟨rfl,rfl,rfl,fun _ _=>rfl,by kernel_rfl,by decide +kernel,by kernel_rfl⟩
theorem ME:FnOk A0 61 zZ:=⟨rfl,rfl,rfl,fun _ _=>rfl,by kernel_rfl,by decide +kernel,by kernel_rfl⟩
theorem MF:FnOk A0 70 AA:=⟨rfl,rfl,rfl,fun _ _=>rfl,by kernel_rfl,by decide +kernel,by kernel_rfl⟩
theorem MG:FnOk A0 97 AB:=⟨rfl,rfl,rfl,fun _ _=>rfl,by kernel_rfl,by decide +kernel,by kernel_rfl⟩
theorem MH:FnOk A0 98 AC:=⟨rfl,rfl,rfl,fun _ _=>rfl,by kernel_rfl,by decide +kernel,by kernel_rfl⟩
theorem MI:FnOk A0 99 AD:=⟨rfl,rfl,rfl,fun _ _=>rfl,by kernel_rfl,by decide +kernel,by kernel_rfl⟩
theorem GM:FnOk A0 100 uG:=⟨rfl,rfl,rfl,fun _ _=>rfl,by kernel_rfl,by decide +kernel,by kernel_rfl⟩
theorem GN:FnOk A0 101 uH:=⟨rfl,rfl,rfl,fun _ _=>rfl,by kernel_rfl,by decide +kernel,by kernel_rfl⟩
theorem GO:FnOk A0 102 uI:=⟨rfl,rfl,rfl,fun _ _=>rfl,by kernel_rfl,by decide +kernel,by kernel_rfl⟩
theorem GP:FnOk A0 105 uJ:=⟨rfl,rfl,rfl,fun _ _=>rfl,by kernel_rfl,by decide +kernel,by kernel_rfl⟩
theorem GQ:FnOk A0 106 uK:=⟨rfl,rfl,rfl,fun _ _=>rfl,by kernel_rfl,by decide +kernel,by kernel_rfl⟩
theorem GR:FnOk A0 107 uL:=⟨rfl,rfl,rfl,fun _ _=>rfl,by kernel_rfl,by decide +kernel,by kernel_rfl⟩
theorem GS:FnOk A0 108 uM:=⟨rfl,rfl,rfl,fun _ _=>rfl,by kernel_rfl,by decide +kernel,by kernel_rfl⟩
theorem GT:FnOk A0 111 uN:=⟨rfl,rfl,rfl,fun _ _=>rfl,by kernel_rfl,by decide +kernel,by kernel_rfl⟩
theorem GU:FnOk A0 112 uO:=⟨rfl,rfl,rfl,fun _ _=>rfl,by kernel_rfl,by decide +kernel,by kernel_rfl⟩
theorem GV:FnOk A0 113 uP:=⟨rfl,rfl,rfl,fun _ _=>rfl,by kernel_rfl,by decide +kernel,by kernel_rfl⟩
theorem GW:FnOk A0 125 uQ:=⟨rfl,rfl,rfl,fun _ _=>rfl,by kernel_rfl,by decide +kernel,by kernel_rfl⟩
theorem GX:FnOk A0 162 uR:=⟨rfl,rfl,rfl,fun _ _=>rfl,by kernel_rfl,by decide +kernel,by kernel_rfl⟩
theorem GY:FnOk A0 168 uS:=⟨rfl,rfl,rfl,fun _ _=>rfl,by kernel_rfl,by decide +kernel,by kernel_rfl⟩
theorem GZ:FnOk A0 169 uT:=⟨rfl,rfl,rfl,fun _ _=>rfl,by kernel_rfl,by decide +kernel,by kernel_rfl⟩
theorem HA:FnOk A0 170 uU:=⟨rfl,rfl,rfl,fun _ _=>rfl,by kernel_rfl,by decide +kernel,by kernel_rfl⟩
theorem HB:FnOk A0 174 uV:=⟨rfl,rfl,rfl,fun _ _=>rfl,by kernel_rfl,by decide +kernel,by kernel_rfl⟩
theorem HC:FnOk A0 175 uW:=⟨rfl,rfl,rfl,fun _ _=>rfl,by kernel_rfl,by decide +kernel,by kernel_rfl⟩
theorem HE:FnOk A0 176 uX:=⟨rfl,rfl,rfl,fun _ _=>rfl,by kernel_rfl,by decide +kernel,by kernel_rfl⟩
theorem HF:FnOk A0 177 uY:=⟨rfl,rfl,rfl,fun _ _=>rfl,by kernel_rfl,by decide +kernel,by kernel_rfl⟩
theorem HG:FnOk A0 178 uZ:=⟨rfl,rfl,rfl,fun _ _=>rfl,by kernel_rfl,by decide +kernel,by kernel_rfl⟩
theorem HH:FnOk A0 182 vA:=⟨rfl,rfl,rfl,fun _ _=>rfl,by kernel_rfl,by decide +kernel,by kernel_rfl⟩
theorem HI:FnOk A0 188 vB:=⟨rfl,rfl,rfl,fun _ _=>rfl,by kernel_rfl,by decide +kernel,by kernel_rfl⟩
theorem HJ:FnOk A0 221 vC:=⟨rfl,rfl,rfl,fun _ _=>rfl,by kernel_rfl,by decide +kernel,by kernel_rfl⟩
theorem HK:FnOk A0 222 vD:=⟨rfl,rfl,rfl,fun _ _=>rfl,by kernel_rfl,by decide +kernel,by kernel_rfl⟩
theorem HL:FnOk A0 223 vE:=⟨rfl,rfl,rfl,fun _ _=>rfl,by kernel_rfl,by decide +kernel,by kernel_rfl⟩
theorem HM:FnOk A0 224 vF:=⟨rfl,rfl,rfl,fun _ _=>rfl,by kernel_rfl,by decide +kernel,by kernel_rfl⟩
theorem HN:FnOk A0 225 vG:=⟨rfl,rfl,rfl,fun _ _=>rfl,by kernel_rfl,by decide +kernel,by kernel_rfl⟩
theorem HO:FnOk A0 246 vH:=⟨rfl,rfl,rfl,fun _ _=>rfl,by kernel_rfl,by decide +kernel,by kernel_rfl⟩
theorem HP:FnOk A0 247 vI:=⟨rfl,rfl,rfl,fun _ _=>rfl,by kernel_rfl,by decide +kernel,by kernel_rfl⟩
theorem HQ:FnOk A0 248 vJ:=⟨rfl,rfl,rfl,fun _ _=>rfl,by kernel_rfl,by decide +kernel,by kernel_rfl⟩
theorem HR:FnOk A0 249 vK:=⟨rfl,rfl,rfl,fun _ _=>rfl,by kernel_rfl,by decide +kernel,by kernel_rfl⟩
theorem HS:FnOk A0 250 vL:=⟨rfl,rfl,rfl,fun _ _=>rfl,by kernel_rfl,by decide +kernel,by kernel_rfl⟩
theorem HU:FnOk A0 264 vM:=⟨rfl,rfl,rfl,fun _ _=>rfl,by kernel_rfl,by decide +kernel,by kernel_rfl⟩
theorem zD (f:Nat):GL f (A5 f):=(w7 f 125 (w7 f 99 (w7 f 39 (w7 f 32 (w7 f 14 (s3 PA) (s3 LY)) (w7 f 33 (s3 LZ) (w7 f 35 (s3 MA) (s3 MB)))) (w7 f 70 (w7 f 40 (s3 MC) (w7 f 61 (s3 MD) (s3 ME))) (w7 f 97 (s3 MF) (w7 f 98 (s3 MG) (s3 MH))))) (w7 f 106 (w7 f 101 (w7 f 100 (s3 MI) (s3 GM)) (w7 f 102 (s3 GN) (w7 f 105 (s3 GO) (s3 GP)))) (w7 f 111 (w7 f 107 (s3 GQ) (w7 f 108 (s3 GR) (s3 GS))) (w7 f 112 (s3 GT) (w7 f 113 (s3 GU) (s3 GV)))))) (w7 f 188 (w7 f 174 (w7 f 168 (w7 f 162 (s3 GW) (s3 GX)) (w7 f 169 (s3 GY) (w7 f 170 (s3 GZ) (s3 HA)))) (w7 f 177 (w7 f 175 (s3 HB) (w7 f 176 (s3 HC) (s3 HE))) (w7 f 178 (s3 HF) (w7 f 182 (s3 HG) (s3 HH))))) (w7 f 246 (w7 f 223 (w7 f 221 (s3 HI) (w7 f 222 (s3 HJ) (s3 HK))) (w7 f 224 (s3 HL) (w7 f 225 (s3 HM) (s3 HN)))) (w7 f 249 (w7 f 247 (s3 HO) (w7 f 248 (s3 HP) (s3 HQ))) (w7 f 250 (s3 HR) (w7 f 264 (s3 HS) (s3 HU)))))))
theorem MJ (f:Nat) (p:PFn) (e:A5 f=some p):FnOk A0 f p:=by
 have:=zD f
 rw [e] at this
 exact this
theorem pe_ok:PEok ⟨A0,T0,A5⟩:=⟨(fun g v e=>by cases (e:(none:Option AV)=some v)),OZ,(fun f g e=>by cases (e:(none:Option (List AV->Option (List AV)))=some g)),MJ⟩
end Go.Proofs.AmEnv
