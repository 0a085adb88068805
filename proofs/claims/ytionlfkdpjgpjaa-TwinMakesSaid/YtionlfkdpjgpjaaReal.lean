/- The tables are this program's. Conditions: none. -/
import Derived.Test.YtionlfkdpjgpjaaGenB
import Derived.KernelRfl
import Derived.Shelf.Strings.Shaped
import Derived.Test.YtionlfkdpjgpjaaProg
set_option linter.unusedVariables false
set_option linter.unusedSimpArgs false
set_option linter.unusedSectionVars false
set_option linter.defProp false
set_option maxRecDepth 100000
namespace Go.Proofs
open Go.Shelf
def Try.laysM144_ren:Go.Shelf.Ren:=⟨fun | 144=>245 | 143=>263 | 219=>270 | 217=>282 | 225=>283 | 224=>284 | 267=>285 | 266=>292 | 314=>293 | n=>n,fun | 9=>9 | 4=>4 | 3=>3 | 5=>5 | 46=>235 | 146=>252 | 51=>251 | n=>n,fun | 1=>0 | n=>n⟩
theorem Try.laysM144:Go.Proofs.LaysM.n144 Try.prog Try.laysM144_ren:={
 mixed:=by kernel_rfl
 f143:=Try.func263.trans (congrArg some (by kernel_rfl))
 f144:=Try.func245.trans (congrArg some (by kernel_rfl))
 f217:=Try.func282.trans (congrArg some (by kernel_rfl))
 f219:=Try.func270.trans (congrArg some (by kernel_rfl))
 f224:=Try.func284.trans (congrArg some (by kernel_rfl))
 f225:=Try.func283.trans (congrArg some (by kernel_rfl))
 f266:=Try.func292.trans (congrArg some (by kernel_rfl))
 f267:=Try.func285.trans (congrArg some (by kernel_rfl))
 f314:=Try.func293.trans (congrArg some (by kernel_rfl))
 t3:=Try.underlying3
 a3:=Try.isAgg3
 z3:=Try.sizeOf3
 v3:=Try.zeroValue3
 t4:=Try.underlying4
 a4:=Try.isAgg4
 z4:=Try.sizeOf4
 v4:=Try.zeroValue4
 t5:=Try.underlying5
 a5:=Try.isAgg5
 z5:=Try.sizeOf5
 v5:=Try.zeroValue5
 t9:=Try.underlying9
 a9:=Try.isAgg9
 z9:=Try.sizeOf9
 v9:=Try.zeroValue9
 t46:=Try.underlying235
 a46:=Try.isAgg235
 z46:=Try.sizeOf235
 v46:=Try.zeroValue235
 t51:=Try.underlying251
 a51:=Try.isAgg251
 z51:=Try.sizeOf251
 v51:=Try.zeroValue251
 t146:=Try.underlying252
 a146:=Try.isAgg252
 z146:=Try.sizeOf252
 v146:=Try.zeroValue252
 g1:=by kernel_rfl
 i3:=by kernel_rfl
 i4:=by kernel_rfl
 i5:=by kernel_rfl
 i9:=by kernel_rfl
 i46:=by kernel_rfl
 i51:=by kernel_rfl
 i146:=by kernel_rfl
 m1:=by kernel_rfl
 s1_3:=fun w h=>Go.Proofs.cell_of_shapedOpen_int (zero:=#[.int .i64 0]) (t:=3) h (of_decide_eq_true (by kernel_rfl)) (by kernel_rfl) rfl (by kernel_rfl) (by kernel_rfl) Try.underlying3 }
end Go.Proofs
namespace Go.Proofs.AmEnv
open Go Go.AM
theorem wF:∀ f ks,A0.dlf f=some ks->rD Try.prog f ks:=fun f ks h=>by cases (h:(none:Option (List Nat))=some ks)
theorem wG:∀ f k,A0.srt f k=true->rE Try.prog f k:=fun f k h=>by cases (h:false=true)
theorem wH:(List.range 311).map fn=(List.range 311).map (jR 37056984581706140998068829925604241872779950390853289439849392482893739245682696 Try.prog):=by kernel_rfl
def EP:AV->Bool
 | .int _ _ | .bool _ | .str _ | .nilptr | .nilsl | .nilfn | .niliface | .nilmap=>true
 | _=>false
noncomputable def IB (q:TI):Bool:=(match q.zero with | .agg cs=>cs.all EP | x=>EP x) && Nat.beq q.zero.cells.length q.size
theorem zfS_fz {Z:Nat->Prop} {h:Heap} {x:AV} (e:EP x=true):Fz Z h x x:=by
 cases x <;> first | exact .int _ _ | exact .bool _ | exact .str _ | exact .nilptr | exact .nilsl | exact .nilfn | exact .niliface | exact .nilmap | cases e
theorem rA {x:AV} (e:EP x=true):AM.clo x=true:=by
 cases x <;> first | rfl | cases e
theorem wI {q:TI} (e:IB q=true):(∀ Z h,Fz Z h q.zero q.zero)∧q.zero.cells.length=q.size:=by
 unfold IB at e
 rw [Bool.and_eq_true] at e
 refine ⟨fun Z h=>?_,Nat.eq_of_beq_eq_true e.2⟩
 have e:=e.1
 cases hz:q.zero with
 | agg cs =>
  rw [hz] at e
  have e:cs.all EP=true:=e
  rw [List.all_eq_true] at e
  exact .agg rfl (fun i x y hx hy=>by rw [hx] at hy; cases hy; exact zfS_fz (e x (List.mem_of_getElem? hx))) (List.all_eq_true.2 fun x hx=>rA (e x hx))
 | _=>rw [hz] at e; exact zfS_fz e
def EQ (f:Nat) (o:Option Go.AM.FI):Prop:=∀ x,o=some x->f < 311
theorem P0 (t m:Nat) {a b:Option Go.AM.FI} (ha:EQ t a) (hb:EQ t b):EQ t (bif Nat.blt t m then a else b):=by cases Nat.blt t m <;> assumption
theorem O7 {t m:Nat} {p:Go.AM.FI} (h:m < 311):EQ t (bif Nat.beq t m then some p else none):=by
 cases e:Nat.beq t m with
 | true=>rw [Nat.eq_of_beq_eq_true e]; exact fun _ _=>h
 | false=>intro x hx; cases hx
theorem ER (f:Nat):EQ f (fn f):=(P0 f 152 (P0 f 67 (P0 f 21 (P0 f 17 (P0 f 15 (P0 f 14 (O7 (by decide)) (O7 (by decide))) (P0 f 16 (O7 (by decide)) (O7 (by decide)))) (P0 f 19 (P0 f 18 (O7 (by decide)) (O7 (by decide))) (P0 f 20 (O7 (by decide)) (O7 (by decide))))) (P0 f 55 (P0 f 39 (P0 f 23 (O7 (by decide)) (O7 (by decide))) (P0 f 40 (O7 (by decide)) (O7 (by decide)))) (P0 f 65 (P0 f 62 (O7 (by decide)) (O7 (by decide))) (P0 f 66 (O7 (by decide)) (O7 (by decide)))))) (P0 f 75 (P0 f 71 (P0 f 69 (P0 f 68 (O7 (by decide)) (O7 (by decide))) (P0 f 70 (O7 (by decide)) (O7 (by decide)))) (P0 f 73 (P0 f 72 (O7 (by decide)) (O7 (by decide))) (P0 f 74 (O7 (by decide)) (O7 (by decide))))) (P0 f 108 (P0 f 77 (P0 f 76 (O7 (by decide)) (O7 (by decide))) (P0 f 78 (O7 (by decide)) (O7 (by decide)))) (P0 f 112 (P0 f 111 (O7 (by decide)) (O7 (by decide))) (P0 f 113 (O7 (by decide)) (P0 f 145 (O7 (by decide)) (O7 (by decide)))))))) (P0 f 217 (P0 f 170 (P0 f 159 (P0 f 157 (P0 f 155 (O7 (by decide)) (O7 (by decide))) (P0 f 158 (O7 (by decide)) (O7 (by decide)))) (P0 f 161 (P0 f 160 (O7 (by decide)) (O7 (by decide))) (P0 f 162 (O7 (by decide)) (O7 (by decide))))) (P0 f 177 (P0 f 175 (P0 f 174 (O7 (by decide)) (O7 (by decide))) (P0 f 176 (O7 (by decide)) (O7 (by decide)))) (P0 f 182 (P0 f 178 (O7 (by decide)) (O7 (by decide))) (P0 f 216 (O7 (by decide)) (O7 (by decide)))))) (P0 f 241 (P0 f 222 (P0 f 219 (P0 f 218 (O7 (by decide)) (O7 (by decide))) (P0 f 221 (O7 (by decide)) (O7 (by decide)))) (P0 f 224 (P0 f 223 (O7 (by decide)) (O7 (by decide))) (P0 f 225 (O7 (by decide)) (O7 (by decide))))) (P0 f 248 (P0 f 246 (P0 f 242 (O7 (by decide)) (O7 (by decide))) (P0 f 247 (O7 (by decide)) (O7 (by decide)))) (P0 f 250 (P0 f 249 (O7 (by decide)) (O7 (by decide))) (P0 f 262 (O7 (by decide)) (P0 f 264 (O7 (by decide)) (O7 (by decide)))))))))
theorem rB (t:Nat) (h:311≤t):fn t=none:=by
 cases e:fn t with
 | none=>rfl
 | some x=>exact absurd (ER t x e) (by omega)
def ES (t:Nat) (o:Option TI):Prop:=∀ x,o=some x->nR Try.prog t=some x∧IB x=true
theorem o7 (t m:Nat) {a b:Option TI} (ha:ES t a) (hb:ES t b):ES t (bif Nat.blt t m then a else b):=by cases Nat.blt t m <;> assumption
theorem o6 {t m:Nat} {p:TI} (h:nR Try.prog m=some p) (hz:IB p=true):ES t (bif Nat.beq t m then some p else none):=by
 cases e:Nat.beq t m with
 | true=>rw [Nat.eq_of_beq_eq_true e]; intro x hx; cases hx; exact ⟨h,hz⟩
 | false=>intro x hx; cases hx
theorem nG (t:Nat):ES t (ti t):=(o7 t 55 (o7 t 32 (o7 t 23 (o7 t 9 (o7 t 4 (o6 (by kernel_rfl) rfl) (o6 (by kernel_rfl) rfl)) (o7 t 21 (o6 (by kernel_rfl) rfl) (o7 t 22 (o6 (by kernel_rfl) rfl) (o6 (by kernel_rfl) rfl)))) (o7 t 28 (o7 t 25 (o6 (by kernel_rfl) rfl) (o6 (by kernel_rfl) rfl)) (o7 t 29 (o6 (by kernel_rfl) rfl) (o7 t 31 (o6 (by kernel_rfl) rfl) (o6 (by kernel_rfl) rfl))))) (o7 t 41 (o7 t 37 (o7 t 33 (o6 (by kernel_rfl) rfl) (o6 (by kernel_rfl) rfl)) (o7 t 38 (o6 (by kernel_rfl) rfl) (o7 t 39 (o6 (by kernel_rfl) rfl) (o6 (by kernel_rfl) rfl)))) (o7 t 45 (o7 t 42 (o6 (by kernel_rfl) rfl) (o7 t 43 (o6 (by kernel_rfl) rfl) (o6 (by kernel_rfl) rfl))) (o7 t 47 (o6 (by kernel_rfl) rfl) (o7 t 54 (o6 (by kernel_rfl) rfl) (o6 (by kernel_rfl) rfl)))))) (o7 t 110 (o7 t 82 (o7 t 62 (o7 t 61 (o6 (by kernel_rfl) rfl) (o6 (by kernel_rfl) rfl)) (o7 t 66 (o6 (by kernel_rfl) rfl) (o7 t 77 (o6 (by kernel_rfl) rfl) (o6 (by kernel_rfl) rfl)))) (o7 t 97 (o7 t 94 (o6 (by kernel_rfl) rfl) (o7 t 96 (o6 (by kernel_rfl) rfl) (o6 (by kernel_rfl) rfl))) (o7 t 105 (o6 (by kernel_rfl) rfl) (o7 t 109 (o6 (by kernel_rfl) rfl) (o6 (by kernel_rfl) rfl))))) (o7 t 161 (o7 t 116 (o7 t 113 (o6 (by kernel_rfl) rfl) (o6 (by kernel_rfl) rfl)) (o7 t 122 (o6 (by kernel_rfl) rfl) (o7 t 124 (o6 (by kernel_rfl) rfl) (o6 (by kernel_rfl) rfl)))) (o7 t 220 (o7 t 163 (o6 (by kernel_rfl) rfl) (o7 t 170 (o6 (by kernel_rfl) rfl) (o6 (by kernel_rfl) rfl))) (o7 t 223 (o6 (by kernel_rfl) rfl) (o7 t 225 (o6 (by kernel_rfl) rfl) (o6 (by kernel_rfl) rfl)))))))
theorem RS:wN A0:=fun t q e=>wI (nG t q e).2
theorem env_ok:EnvOk A0 Try.prog:=⟨fun t x h=>nT (nG t x h).1,fun f x hx=>nV (jS (jT wH rB hx)),(nW Go.Proofs.Try.laysM144 (fun f h=>beq_true h) rfl),wF,wG,by kernel_rfl⟩
def ET (f:Nat):Option PFn->Prop
 | none=>True
 | some p=>FnOk A0 f p
theorem Q0 (f m:Nat) {a b:Option PFn} (ha:ET f a) (hb:ET f b):ET f (bif Nat.blt f m then a else b):=by cases Nat.blt f m <;> assumption
theorem O8 {f m:Nat} {p:PFn} (h:FnOk A0 m p):ET f (bif Nat.beq f m then some p else none):=by
 cases e:Nat.beq f m with
 | true=>rw [Nat.eq_of_beq_eq_true e]; exact h
 | false=>trivial
theorem RT:FnOk A0 3 NK:=⟨rfl,rfl,rfl,fun _ _=>rfl,by kernel_rfl,by decide +kernel,by kernel_rfl⟩
theorem MI:FnOk A0 14 xO:=⟨rfl,rfl,rfl,fun _ _=>rfl,by kernel_rfl,by decide +kernel,by kernel_rfl⟩
theorem MJ:FnOk A0 15 xP:=⟨rfl,rfl,rfl,fun _ _=>rfl,by kernel_rfl,by decide +kernel,by kernel_rfl⟩
theorem MK:FnOk A0 16 xQ:=⟨rfl,rfl,rfl,fun _ _=>rfl,by kernel_rfl,by decide +kernel,by kernel_rfl⟩
theorem ML:FnOk A0 17 xR:=⟨rfl,rfl,rfl,fun _ _=>rfl,by kernel_rfl,by decide +kernel,by kernel_rfl⟩
theorem MM:FnOk A0 18 xS:=⟨rfl,rfl,rfl,fun _ _=>rfl,by kernel_rfl,by decide +kernel,by kernel_rfl⟩
theorem MN:FnOk A0 19 xT:=⟨rfl,rfl,rfl,fun _ _=>rfl,by kernel_rfl,by decide +kernel,by kernel_rfl⟩
theorem MO:FnOk A0 20 xU:=⟨rfl,rfl,rfl,fun _ _=>rfl,by kernel_rfl,by decide +kernel,by kernel_rfl⟩
theorem MP:FnOk A0 21 xV:=⟨rfl,rfl,rfl,fun _ _=>rfl,by kernel_rfl,by decide +kernel,by kernel_rfl⟩
theorem MQ:FnOk A0 23 xW:=⟨rfl,rfl,rfl,fun _ _=>rfl,by kernel_rfl,by decide +kernel,by kernel_rfl⟩
theorem MR:FnOk A0 39 xX:=⟨rfl,rfl,rfl,fun _ _=>rfl,by kernel_rfl,by decide +kernel,by kernel_rfl⟩
theorem MS:FnOk A0 40 xY:=⟨rfl,rfl,rfl,fun _ _=>rfl,by kernel_rfl,by decide +kernel,by kernel_rfl⟩
theorem MT:FnOk A0 55 xZ:=⟨rfl,rfl,rfl,fun _ _=>rfl,by kernel_rfl,by decide +kernel,by kernel_rfl⟩
theorem MU:FnOk A0 62 yA:=⟨rfl,rfl,rfl,fun _ _=>rfl,by kernel_rfl,by decide +kernel,by kernel_rfl⟩
theorem MV:FnOk A0 65 yB:=⟨rfl,rfl,rfl,fun _ _=>rfl,by kernel_rfl,by decide +kernel,by kernel_rfl⟩
theorem MW:FnOk A0 66 yC:=⟨rfl,rfl,rfl,fun _ _=>rfl,by kernel_rfl,by decide +kernel,by kernel_rfl⟩
theorem MX:FnOk A0 67 yD:=⟨rfl,rfl,rfl,fun _ _=>rfl,by kernel_rfl,by decide +kernel,by kernel_rfl⟩
theorem MY:FnOk A0 68 yE:=⟨rfl,rfl,rfl,fun _ _=>rfl,by kernel_rfl,by decide +kernel,by kernel_rfl⟩
theorem MZ:FnOk A0 69 yF:=⟨rfl,rfl,rfl,fun _ _=>rfl,by kernel_rfl,by decide +kernel,by kernel_rfl⟩
theorem NA:FnOk A0 70 yG:=⟨rfl,rfl,rfl,fun _ _=>rfl,by kernel_rfl,by decide +kernel,by kernel_rfl⟩
theorem NB:FnOk A0 71 yH:=⟨rfl,rfl,rfl,fun _ _=>rfl,by kernel_rfl,by decide +kernel,by kernel_rfl⟩
theorem NC:FnOk A0 72 yI:=⟨rfl,rfl,rfl,fun _ _=>rfl,by kernel_rfl,by decide +kernel,by kernel_rfl⟩
theorem ND:FnOk A0 73 yJ:=⟨rfl,rfl,rfl,fun _ _=>rfl,by kernel_rfl,by decide +kernel,by kernel_rfl⟩
theorem NE:FnOk A0 74 yK:=⟨rfl,rfl,rfl,fun _ _=>rfl,by kernel_rfl,by decide +kernel,by kernel_rfl⟩
theorem NF:FnOk A0 75 yL:=⟨rfl,rfl,rfl,fun _ _=>rfl,by kernel_rfl,by decide +kernel,by kernel_rfl⟩
theorem NG:FnOk A0 76 yM:=⟨rfl,rfl,rfl,fun _ _=>rfl,by kernel_rfl,by decide +kernel,by kernel_rfl⟩
theorem NH:FnOk A0 77 yN:=⟨rfl,rfl,rfl,fun _ _=>rfl,by kernel_rfl,by decide +kernel,by kernel_rfl⟩
theorem NI:FnOk A0 78 yO:=⟨rfl,rfl,rfl,fun _ _=>rfl,by kernel_rfl,by decide +kernel,by kernel_rfl⟩
theorem EU:FnOk A0 108 rY:=⟨rfl,rfl,rfl,fun _ _=>rfl,by kernel_rfl,by decide +kernel,by kernel_rfl⟩
theorem EV:FnOk A0 111 rZ:=⟨rfl,rfl,rfl,fun _ _=>rfl,by kernel_rfl,by decide +kernel,by kernel_rfl⟩
theorem EW:FnOk A0 112 sA:=⟨rfl,rfl,rfl,fun _ _=>rfl,by kernel_rfl,by decide +kernel,by kernel_rfl⟩
theorem EX:FnOk A0 113 sB:=⟨rfl,rfl,rfl,fun _ _=>rfl,by kernel_rfl,by decide +kernel,by kernel_rfl⟩
theorem EY:FnOk A0 145 sC:=⟨rfl,rfl,rfl,fun _ _=>rfl,by kernel_rfl,by decide +kernel,by kernel_rfl⟩
theorem EZ:FnOk A0 152 sD:=⟨rfl,rfl,rfl,fun _ _=>rfl,by kernel_rfl,by decide +kernel,by kernel_rfl⟩
theorem FA:FnOk A0 155 sE:=⟨rfl,rfl,rfl,fun _ _=>rfl,by kernel_rfl,by decide +kernel,by kernel_rfl⟩
theorem FB:FnOk A0 157 sF:=⟨rfl,rfl,rfl,fun _ _=>rfl,by kernel_rfl,by decide +kernel,by kernel_rfl⟩
theorem FC:FnOk A0 158 sG:=⟨rfl,rfl,rfl,fun _ _=>rfl,by kernel_rfl,by decide +kernel,by kernel_rfl⟩
theorem FD:FnOk A0 159 sH:=⟨rfl,rfl,rfl,fun _ _=>rfl,by kernel_rfl,by decide +kernel,by kernel_rfl⟩
theorem FE:FnOk A0 160 sI:=⟨rfl,rfl,rfl,fun _ _=>rfl,by kernel_rfl,by decide +kernel,by kernel_rfl⟩
theorem FF:FnOk A0 161 sJ:=⟨rfl,rfl,rfl,fun _ _=>rfl,by kernel_rfl,by decide +kernel,by kernel_rfl⟩
theorem FG:FnOk A0 162 sK:=⟨rfl,rfl,rfl,fun _ _=>rfl,by kernel_rfl,by decide +kernel,by kernel_rfl⟩
theorem FH:FnOk A0 170 sL:=⟨rfl,rfl,rfl,fun _ _=>rfl,by kernel_rfl,by decide +kernel,by kernel_rfl⟩
theorem FJ:FnOk A0 174 sM:=⟨rfl,rfl,rfl,fun _ _=>rfl,by kernel_rfl,by decide +kernel,by kernel_rfl⟩
theorem FK:FnOk A0 175 sN:=⟨rfl,rfl,rfl,fun _ _=>rfl,by kernel_rfl,by decide +kernel,by kernel_rfl⟩
theorem FL:FnOk A0 176 sO:=⟨rfl,rfl,rfl,fun _ _=>rfl,by kernel_rfl,by decide +kernel,by kernel_rfl⟩
theorem FN:FnOk A0 177 sP:=⟨rfl,rfl,rfl,fun _ _=>rfl,by kernel_rfl,by decide +kernel,by kernel_rfl⟩
theorem FO:FnOk A0 178 sQ:=⟨rfl,rfl,rfl,fun _ _=>rfl,by kernel_rfl,by decide +kernel,by kernel_rfl⟩
theorem FP:FnOk A0 182 sR:=⟨rfl,rfl,rfl,fun _ _=>rfl,by kernel_rfl,by decide +kernel,by kernel_rfl⟩
theorem FQ:FnOk A0 216 sS:=⟨rfl,rfl,rfl,fun _ _=>rfl,by kernel_rfl,by decide +kernel,by kernel_rfl⟩
theorem FR:FnOk A0 217 sT:=⟨rfl,rfl,rfl,fun _ _=>rfl,by kernel_rfl,by decide +kernel,by kernel_rfl⟩
theorem FS:FnOk A0 218 sU:=⟨rfl,rfl,rfl,fun _ _=>rfl,by kernel_rfl,by decide +kernel,by kernel_rfl⟩
theorem FT:FnOk A0 219 sV:=⟨rfl,rfl,rfl,fun _ _=>rfl,by kernel_rfl,by decide +kernel,by kernel_rfl⟩
theorem FU:FnOk A0 221 sW:=⟨rfl,rfl,rfl,fun _ _=>rfl,by kernel_rfl,by decide +kernel,by kernel_rfl⟩
theorem FV:FnOk A0 222 sX:=⟨rfl,rfl,rfl,fun _ _=>rfl,by kernel_rfl,by decide +kernel,by kernel_rfl⟩
theorem FW:FnOk A0 223 sY:=⟨rfl,rfl,rfl,fun _ _=>rfl,by kernel_rfl,by decide +kernel,by kernel_rfl⟩
theorem FX:FnOk A0 224 sZ:=⟨rfl,rfl,rfl,fun _ _=>rfl,by kernel_rfl,by decide +kernel,by kernel_rfl⟩
theorem FY:FnOk A0 225 tA:=⟨rfl,rfl,rfl,fun _ _=>rfl,by kernel_rfl,by decide +kernel,by kernel_rfl⟩
theorem FZ:FnOk A0 241 tB:=⟨rfl,rfl,rfl,fun _ _=>rfl,by kernel_rfl,by decide +kernel,by kernel_rfl⟩
theorem GA:FnOk A0 242 tC:=⟨rfl,rfl,rfl,fun _ _=>rfl,by kernel_rfl,by decide +kernel,by kernel_rfl⟩
theorem GB:FnOk A0 246 tD:=⟨rfl,rfl,rfl,fun _ _=>rfl,by kernel_rfl,by decide +kernel,by kernel_rfl⟩
theorem GC:FnOk A0 247 tE:=⟨rfl,rfl,rfl,fun _ _=>rfl,by kernel_rfl,by decide +kernel,by kernel_rfl⟩
theorem GD:FnOk A0 248 tF:=⟨rfl,rfl,rfl,fun _ _=>rfl,by kernel_rfl,by decide +kernel,by kernel_rfl⟩
theorem GE:FnOk A0 249 tG:=⟨rfl,rfl,rfl,fun _ _=>rfl,by kernel_rfl,by decide +kernel,by kernel_rfl⟩
theorem GF:FnOk A0 250 tH:=⟨rfl,rfl,rfl,fun _ _=>rfl,by kernel_rfl,by decide +kernel,by kernel_rfl⟩
theorem GG:FnOk A0 262 tI:=⟨rfl,rfl,rfl,fun _ _=>rfl,by kernel_rfl,by decide +kernel,by kernel_rfl⟩
theorem GH:FnOk A0 264 tJ:=⟨rfl,rfl,rfl,fun _ _=>rfl,by kernel_rfl,by decide +kernel,by kernel_rfl⟩
theorem wJ (f:Nat):ET f (A2 f):=(Q0 f 152 (Q0 f 67 (Q0 f 21 (Q0 f 17 (Q0 f 15 (Q0 f 14 (O8 RT) (O8 MI)) (Q0 f 16 (O8 MJ) (O8 MK))) (Q0 f 19 (Q0 f 18 (O8 ML) (O8 MM)) (Q0 f 20 (O8 MN) (O8 MO)))) (Q0 f 55 (Q0 f 39 (Q0 f 23 (O8 MP) (O8 MQ)) (Q0 f 40 (O8 MR) (O8 MS))) (Q0 f 65 (Q0 f 62 (O8 MT) (O8 MU)) (Q0 f 66 (O8 MV) (O8 MW))))) (Q0 f 75 (Q0 f 71 (Q0 f 69 (Q0 f 68 (O8 MX) (O8 MY)) (Q0 f 70 (O8 MZ) (O8 NA))) (Q0 f 73 (Q0 f 72 (O8 NB) (O8 NC)) (Q0 f 74 (O8 ND) (O8 NE)))) (Q0 f 108 (Q0 f 77 (Q0 f 76 (O8 NF) (O8 NG)) (Q0 f 78 (O8 NH) (O8 NI))) (Q0 f 112 (Q0 f 111 (O8 EU) (O8 EV)) (Q0 f 113 (O8 EW) (Q0 f 145 (O8 EX) (O8 EY))))))) (Q0 f 217 (Q0 f 170 (Q0 f 159 (Q0 f 157 (Q0 f 155 (O8 EZ) (O8 FA)) (Q0 f 158 (O8 FB) (O8 FC))) (Q0 f 161 (Q0 f 160 (O8 FD) (O8 FE)) (Q0 f 162 (O8 FF) (O8 FG)))) (Q0 f 177 (Q0 f 175 (Q0 f 174 (O8 FH) (O8 FJ)) (Q0 f 176 (O8 FK) (O8 FL))) (Q0 f 182 (Q0 f 178 (O8 FN) (O8 FO)) (Q0 f 216 (O8 FP) (O8 FQ))))) (Q0 f 241 (Q0 f 222 (Q0 f 219 (Q0 f 218 (O8 FR) (O8 FS)) (Q0 f 221 (O8 FT) (O8 FU))) (Q0 f 224 (Q0 f 223 (O8 FV) (O8 FW)) (Q0 f 225 (O8 FX) (O8 FY)))) (Q0 f 248 (Q0 f 246 (Q0 f 242 (O8 FZ) (O8 GA)) (Q0 f 247 (O8 GB) (O8 GC))) (Q0 f 250 (Q0 f 249 (O8 GD) (O8 GE)) (Q0 f 262 (O8 GF) (Q0 f 264 (O8 GG) (O8 GH))))))))
theorem NJ (f:Nat) (p:PFn) (e:A2 f=some p):FnOk A0 f p:=by
 have:=wJ f
 rw [e] at this
 exact this
theorem pe_ok:PEok ⟨A0,T0,A2⟩:=⟨(fun g v e=>by cases (e:(none:Option AV)=some v)),RS,(fun f g e=>by cases (e:(none:Option (List AV->Option (List AV)))=some g)),NJ⟩
end Go.Proofs.AmEnv
