/- TwinMakes holds, of any module: the tree machine goes over the law's code at any data. Conditions: none. -/
import Derived.Test.YtdjkjmdggoejcaaRows
import Derived.WalkKit
import Derived.ProofKit
import Derived.OpenShut
import Derived.HandedShaped
import Derived.Test.YtdjkjmdggoejcaaReal
namespace Go.Proofs.Ytdjkjmdggoejcaa.colourApart
open Go.ChangeShapes Go.WideShapes Go.ChangeAt Go.RowKit
set_option linter.unusedVariables false
open Go.AM
theorem own: ownKnob Try.prog.godebug = none:= by kernel_rfl
theorem laidOut: laidOutB Try.prog = true:= by kernel_rfl
theorem readable: Try.prog.readableRec 25 = true:= by kernel_rfl
theorem rowed: 25<Try.prog.types.size:= of_decide_eq_true (by kernel_rfl)
/-- The law at a module that is read: true, and what was there is as it was. -/
theorem walk{H: Type}{enc: TypeId×Value -> H}{W: World}(hsh: W.ShapedOpen Try.prog){v: Value}{d: DataW H}{ps: List MemPlace}(hT: DataW.Trod enc Try.prog W 0 (fun _ => true) true 25 v d ps)(hw: Wt Try.prog 25 d):
 Calls Try.prog 3 #[v] W fun e w' => e = .returned (.bool true)/\RowKit.Below W.heap.size W w':= by
 obtain ⟨fuel,ht⟩:= hT;obtain⟨acs,M,hsee,hlen,hmod,hok⟩:= AmEnv.ya AmEnv.e0u ht hw;obtain⟨hrep,_⟩:= lW (cx:= cx0) (fun _ h => h) 9 fuel 25 v.cells.toList d ps acs ht hsee;have hrv: Rep W cx0 v (.agg acs):= by
  have hl:= hrep.1;rw[hlen]at hl;cases v with
  | agg cs => exact .agg cs acs (by simpa[Value.cells,hlen]using hl) (fun i v c h1 h2 => by
   obtain⟨v',k1,k2⟩:= hrep.get h2;have k1: cs.toList[i]? = some v':= k1;rw[Array.getElem?_toList,h1]at k1;cases k1;exact k2)
  |_ => simp[Value.cells]at hl
 obtain⟨h',hc⟩:= AmEnv.nh AmEnv.g0a hok hmod;obtain⟨n,hrun⟩:= Xh hc (by intro e;cases e);exact oV AmEnv.e0u (QO rfl rfl (Go.Proofs.Try.laysM144.s1_3 W hsh)) (args:= #[v]) (fc.cons hrv fc.nil) (by rw[hrun];rfl)
set_option maxRecDepth 100000 in
theorem lifted(os: Os)(started: os.Started)(H: Type)(enc: TypeId×Value -> H):
 ReturnsInHanded {} Try.checked os 3 .any (Rows.colourApartSpec.pre6 enc Try.prog Try.f3 Rows.colourApartRow.domain false) (Rows.colourApartSpec.post enc Try.prog Try.f3 false true false false):= by
 refine returnsInHanded_of_change_shaped (C:= Try.checked) own started (by kernel_rfl) Try.func3
  (ChangeSpec.witness6 (enc:= enc) (C:= Try.checked) false ⟨#[],#[.agg #[.slice none 0 0,.slice none 0 0]],[]⟩ 8 (by kernel_rfl) (by kernel_rfl) (by kernel_rfl) (by kernel_rfl)) ?_
 intro W base args ds gs before hval0 hW hcnd hwt hsh _;have hW':= hW;obtain⟨p,q,hA0,hV,rfl,hfz,hnd⟩:= hW;have hA: DataW.TrodAll enc Try.prog W 0 (fun _ => true) true Try.f3.params.toList args.toList ds p:= hA0;rw[Try.params3]at hA;obtain⟨v,d,rfl,rfl,hT⟩:= trodAll_one hA;obtain⟨rfl,rfl⟩:= trodVars_none hV;rw[Try.params3]at hwt;clear hA0;simp only[List.append_nil]at hW';have hwd: Wt Try.prog 25 d:= fun x hx => of_decide_eq_true ((List.all_eq_true.1 hwt) x (s8 _ _ 0 25 d x rfl rfl hx))
 have hlt: ∀x∈p,x.block<W.heap.size:= fun x hx => by simpa using hW'.lt x (by simpa using hx)
 refine(walk hsh hT hwd).mono fun e W' ⟨he,hg⟩ => ?_
 subst he;exact⟨_,rfl,Wo (pa:= p) (pv:= []) hW' (fun _ _ _ => (trodAll_cons_mk (shut_bool Try.underlying4 _) trodAll_mk0)) (fun sp hsp => by
  rw[Try.params3];exact trodAll_mk1 (WideElems.Trod_stays laidOut readable rowed hT (fun x hx => hg.same (hlt x hx)) (fun x hx => hsp x (by simpa using hx)))) (fun _ _ => rfl) (by simp)
  hg (ok_one (by kernel_rfl) rfl (okWide_bool_mk Try.underlying4 _))⟩
theorem over: Rows.colourApartRow.holds Try.pinned (OpenSpec.ofChange Rows.colourApartSpec):=
 OpenClaim.holds_of_wide 3 Try.f3 rfl rfl rfl rfl rfl rfl rfl ⟨rfl,rfl,rfl,rfl,rfl⟩ rfl rfl rfl rfl rfl (by kernel_rfl) Try.func3 (by kernel_rfl)
  (of_decide_eq_true (by kernel_rfl)) (by unfold Func.isWrapper;first|(rw[if_pos (by decide +kernel)];kernel_rfl)|(rw[if_neg (by decide +kernel)];exact⟨rfl,rfl⟩))
  (fun os started H enc _ => lifted os started H enc)
theorem proved: Rows.ColourApartSaid:= over
#print axioms proved
end Go.Proofs.Ytdjkjmdggoejcaa.colourApart
