/- DepthSafe holds, of any module, inputs and steps: the tree machine goes over the law's code at any data. Conditions: none. -/
import Derived.Test.YtnglooakgahhhaaRows
import Derived.WalkKit
import Derived.ProofKit
import Derived.OpenShut
import Derived.HandedShaped
import Derived.Test.YtnglooakgahhhaaReal
namespace Go.Proofs.Ytnglooakgahhhaa.depthSafe
open Go.ChangeShapes Go.WideShapes Go.ChangeAt Go.RowKit
set_option linter.unusedVariables false
open Go.AM
theorem own: ownKnob Try.prog.godebug = none:= by kernel_rfl
theorem laidOut: laidOutB Try.prog = true:= by kernel_rfl
theorem JQ: Try.prog.readableRec 25 = true:= by kernel_rfl
theorem JR: Try.prog.readableRec 26 = true:= by kernel_rfl
theorem JS: Try.prog.readableRec 3 = true:= by kernel_rfl
theorem YB: 25<Try.prog.types.size:= of_decide_eq_true (by kernel_rfl)
theorem YC: 26<Try.prog.types.size:= of_decide_eq_true (by kernel_rfl)
theorem YD: 3<Try.prog.types.size:= of_decide_eq_true (by kernel_rfl)
/-- The law at what is read: true, and what was there is as it was. -/
theorem walk{H: Type}{enc: TypeId×Value -> H}{W: World}(hsh: W.ShapedOpen Try.prog){v u z: Value}{d d' d'': DataW H}{ps ps' ps'': List MemPlace}(hT: DataW.Trod enc Try.prog W 0 (fun _ => true) true 25 v d ps)(hw: Wt Try.prog 25 d)
 (hU: DataW.Trod enc Try.prog W 0 (fun _ => true) true 26 u d' ps')(hu: Wt Try.prog 26 d')(hZ: DataW.Trod enc Try.prog W 0 (fun _ => true) true 3 z d'' ps'')(hz: Wt Try.prog 3 d'')
 (huv: ∃a len cap,u = .slice a len cap)(hzv: ∃n,z = .int .i64 n):
 Calls Try.prog 3 #[v,u,z] W fun e w' => e = .returned (.bool true)/\RowKit.Below W.heap.size W w':= by
 obtain ⟨fuel,ht⟩:= hT;obtain⟨fuel',ht'⟩:= hU;obtain⟨fuel'',ht''⟩:= hZ;obtain⟨acs,M,hsee,hlen,hmod,hok⟩:= AmEnv.mod_see AmEnv.env_ok ht hw;obtain⟨av,inp,hsee',hin,_⟩:= AmEnv.ints_see AmEnv.env_ok ht' hu;obtain⟨st,hsee''⟩:= AmEnv.int_see AmEnv.env_ok ht'' hz;obtain⟨hrep,_⟩:= Pv (cx:= cx0) (fun _ h => h) 9 fuel 25 v.cells.toList d ps acs ht hsee;obtain⟨hrep',_⟩:= Pv (cx:= cx0) (fun _ h => h) 9 fuel' 26 u.cells.toList d' ps' _ ht' hsee';obtain⟨hrep'',_⟩:= Pv (cx:= cx0) (fun _ h => h) 9 fuel'' 3 z.cells.toList d'' ps'' _ ht'' hsee'';have hrv: Rep W cx0 v (.agg acs):= by
  have hl:= hrep.1;rw[hlen]at hl;cases v with
  | agg cs => exact .agg cs acs (by simpa[Value.cells,hlen]using hl) (fun i v c h1 h2 => by
   obtain⟨v',k1,k2⟩:= hrep.get h2;have k1: cs.toList[i]? = some v':= k1;rw[Array.getElem?_toList,h1]at k1;cases k1;exact k2)
  |_ => simp[Value.cells]at hl
 have hru: Rep W cx0 u av:= by
  obtain⟨a,l,c,rfl⟩:= huv;obtain⟨v',k1,k2⟩:= hrep'.get (i:= 0) rfl;cases k1;exact k2
 have hrz: Rep W cx0 z (.int .i64 st):= by
  obtain⟨n,rfl⟩:= hzv;obtain⟨v',k1,k2⟩:= hrep''.get (i:= 0) rfl;cases k1;exact k2
 obtain⟨h',hc⟩:= AmEnv.DepthSafe_ok AmEnv.pe_ok (st:= st) hok hmod hin;obtain⟨n,hrun⟩:= Wc hc (by intro e;cases e);exact oY AmEnv.env_ok (SL rfl rfl (Go.Proofs.Try.laysM144.s1_3 W hsh)) (args:= #[v,u,z]) (RepL.cons hrv (RepL.cons hru (RepL.cons hrz RepL.nil))) (by rw[hrun];rfl)
set_option maxRecDepth 100000 in
theorem lifted(os: Os)(started: os.Started)(H: Type)(enc: TypeId×Value -> H):
 ReturnsInHanded {} Try.checked os 3 .any (Rows.depthSafeSpec.pre6 enc Try.prog Try.f3 Rows.depthSafeRow.domain false) (Rows.depthSafeSpec.post enc Try.prog Try.f3 false true false false):= by
 refine returnsInHanded_of_change_shaped (C:= Try.checked) own started (by kernel_rfl) Try.func3
  (ChangeSpec.witness6 (enc:= enc) (C:= Try.checked) false ⟨#[],#[.agg #[.slice none 0 0,.slice none 0 0],.slice none 0 0,.int .i64 0],[]⟩ 9 (by kernel_rfl) (by kernel_rfl) (by kernel_rfl) (by kernel_rfl)) ?_
 intro W base args ds gs before hval0 hW hcnd hwt hsh _;have hW':= hW;obtain⟨p,q,hA0,hV,rfl,hfz,hnd⟩:= hW;have hA: DataW.TrodAll enc Try.prog W 0 (fun _ => true) true Try.f3.params.toList args.toList ds p:= hA0;rw[Try.params3]at hA;obtain⟨v,u,z,d,d',d'',p1,p2,p3,rfl,rfl,rfl,hT,hU,hZ⟩:= trodAll_three hA;obtain⟨rfl,rfl⟩:= trodVars_none hV;rw[Try.params3]at hwt;clear hA0;simp only[List.append_nil]at hW';have hw1: Wt Try.prog 25 d:= fun x hx => of_decide_eq_true ((List.all_eq_true.1 hwt) x (Q5 _ _ 0 25 d x rfl rfl hx))
 have hw2: Wt Try.prog 26 d':= fun x hx => of_decide_eq_true ((List.all_eq_true.1 hwt) x (Q5 _ _ 1 26 d' x rfl rfl hx))
 have hw3: Wt Try.prog 3 d'':= fun x hx => of_decide_eq_true ((List.all_eq_true.1 hwt) x (Q5 _ _ 2 3 d'' x rfl rfl hx))
 have hlt: ∀x∈p1++p2++p3,x.block<W.heap.size:= fun x hx => by simpa using hW'.lt x (by simpa using hx)
 have hst: ∀{t: TypeId}{v: Value}{d: DataW H}{ps: List MemPlace}{W': World}{sp: Nat -> Bool},DataW.Trod enc Try.prog W 0 (fun _ => true) true t v d ps -> Try.prog.readableRec t = true -> t<Try.prog.types.size -> (∀x∈ps,x∈p1++p2++p3) -> RowKit.Below W.heap.size W W' -> (∀x∈ps,sp x.block = true) -> DataW.Trod enc Try.prog W' 0 sp true t v d ps:= fun hT hr ht hm hg hs =>
  WideElems.Trod_stays laidOut hr ht hT (fun x hx => hg.same (hlt x (hm x hx))) hs
 refine(walk hsh hT hw1 hU hw2 hZ hw3 (okWide_slice Try.underlying26 (hval0 1 26 u (by rw[Try.params3];rfl) rfl)) (okWide_int Try.underlying3 (hval0 2 3 z (by rw[Try.params3];rfl) rfl))).mono fun e W' ⟨he,hg⟩ => ?_
 subst he;exact⟨_,rfl,Vm (pa:= p1++p2++p3) (pv:= []) hW' (fun _ _ _ => (trodAll_cons_mk (shut_bool Try.underlying4 _) trodAll_mk0)) (fun sp hsp => by
  rw[Try.params3,List.append_assoc];exact trodAll_mk3 (hst hT JQ YB (fun x hx => by simp[hx]) hg (fun x hx => hsp x (by simp[hx]))) (hst hU JR YC (fun x hx => by simp[hx]) hg (fun x hx => hsp x (by simp[hx]))) (hst hZ JS YD (fun x hx => by simp[hx]) hg (fun x hx => hsp x (by simp[hx])))) (fun _ _ => rfl) (by simp)
  hg (ok_one (by kernel_rfl) rfl (okWide_bool_mk Try.underlying4 _))⟩
theorem over: Rows.depthSafeRow.holds Try.pinned (OpenSpec.ofChange Rows.depthSafeSpec):=
 OpenClaim.holds_of_wide 3 Try.f3 rfl rfl rfl rfl rfl rfl rfl ⟨rfl,rfl,rfl,rfl,rfl⟩ rfl rfl rfl rfl rfl (by kernel_rfl) Try.func3 (by kernel_rfl)
  (of_decide_eq_true (by kernel_rfl)) (by unfold Func.isWrapper;first|(rw[if_pos (by decide +kernel)];kernel_rfl)|(rw[if_neg (by decide +kernel)];exact⟨rfl,rfl⟩))
  (fun os started H enc _ => lifted os started H enc)
theorem proved: Rows.DepthSafeSaid:= over
#print axioms proved
end Go.Proofs.Ytnglooakgahhhaa.depthSafe
