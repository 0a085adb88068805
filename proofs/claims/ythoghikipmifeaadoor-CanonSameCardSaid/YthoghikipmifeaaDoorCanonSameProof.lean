/- CanonSame holds, of any module, inputs and steps: the tree machine goes over the law's code at any data. Conditions: none. -/
import Derived.Test.YthoghikipmifeaaDoorTie
import Derived.WalkKit
import Derived.ProofKit
import Derived.OpenShut
import Derived.LaidMore
import Derived.SevenTiedAt
import Derived.HandedShaped
import Derived.Carry
import Derived.ReadAgain
import Derived.Test.YthoghikipmifeaaDoorCards
import Derived.Test.YthoghikipmifeaaDoorReal
namespace Go.Proofs.YthoghikipmifeaaDoor.canonSame
open Go.ChangeShapes Go.WideShapes Go.ChangeAt Go.RowKit
set_option linter.unusedVariables false
open Go.AM
theorem own: ownKnob Tryd.prog.godebug = none:= by kernel_rfl
theorem dJ : Tryd.prog.globalNamed "mortise/canon.mirrors" = some 0 := by kernel_rfl
def dK : List (String × DataW Unit) := [("mortise/canon.mirrors", Rows.laid_mortise_canon_mirrors)]
def PL: Array Value:= #[.agg #[.slice none 0 0,.slice none 0 0],.slice none 0 0,.int .i64 0]
theorem rC(os: Os)(args: Array Value): laidMetH Tryd.prog dK ((World.doorLaid Tryd.prog 400 os).forCall (fun _ _ => 0) ⟨#[],args,[]⟩).memory:=
 laidMetH_of_parts3 (fuel:= 8) (laidMet_of_run' 8 (by kernel_rfl) (by kernel_rfl)) (by kernel_rfl) (by kernel_rfl)
def sA(l: List UInt8): AV:= .str l
def dL: List AV:= [sA [43],sA [43],sA [42],sA [42],sA [38],sA [38],sA [124],sA [124],sA [94],sA [94],sA [61,61],sA [61,61],sA [33,61],sA [33,61],sA [60],sA [62],sA [62],sA [60],sA [60,61],sA [62,61],sA [62,61],sA [60,61]]
theorem rD: ∃t,(Tryd.prog.globals[0]?).map (·.type) = some t/\O7 Tryd.prog 8 t (Rows.laid_mortise_canon_mirrors (H:= Unit)) = some dL:= ⟨_,rfl,by kernel_rfl⟩
theorem FT{W: World}(h: laidMetH Tryd.prog dK W): ∀g v,AmEnv.env.gl g = some v -> Rep W cx0 (.pointer (some ⟨g,0,none⟩)) (.fptr v 0):= by
 rw[MakeChecks.laidMetH_plain _ _ _ (by kernel_rfl)]at h;obtain⟨ps,⟨g0,t0,cs0,f0,p0,q0,hg0,ht0,hv0,hd0,_⟩,_⟩:= h;obtain rfl:= Option.some.inj (dJ.symm.trans hg0);obtain⟨t,ht,hsee⟩:= rD;obtain rfl:= Option.some.inj (ht.symm.trans ht0);intro g v hg;have hg: (bif Nat.beq g 0 then some (AV.agg dL)else none) = some v:= hg;cases hb: Nat.beq g 0 with
 |false => rw[hb]at hg;cases hg
 | true =>
  rw[hb]at hg;cases hg;have: g = 0:= Nat.eq_of_beq_eq_true hb;subst this;exact gG dJ hv0 hd0 hsee (by intro e;cases e)
theorem PM{W: World}(h: laidMetH Tryd.prog dK W)(hsh: W.ShapedOpen Tryd.prog): GlOk AmEnv.env W cx0:=
 ⟨FT h,(PH (E:= {AmEnv.env with gl:= fun _ => none}) rfl rfl (Go.Proofs.Tryd.laysM144.s1_3 W hsh)).int⟩
theorem laidOut: laidOutB Tryd.prog = true:= by kernel_rfl
theorem FU: Tryd.prog.readableRec 25 = true:= by kernel_rfl
theorem FV: Tryd.prog.readableRec 26 = true:= by kernel_rfl
theorem FW: Tryd.prog.readableRec 3 = true:= by kernel_rfl
theorem PN: 25<Tryd.prog.types.size:= of_decide_eq_true (by kernel_rfl)
theorem PP: 26<Tryd.prog.types.size:= of_decide_eq_true (by kernel_rfl)
theorem PQ: 3<Tryd.prog.types.size:= of_decide_eq_true (by kernel_rfl)
/-- The law at what is read: true, and what was there is as it was. -/
theorem walk{H: Type}{enc: TypeId×Value -> H}{W: World}(hL: laidMetH Tryd.prog dK W)(hsh: W.ShapedOpen Tryd.prog){v u z: Value}{d d' d'': DataW H}{ps ps' ps'': List MemPlace}(hT: DataW.Trod enc Tryd.prog W 0 (fun _ => true) true 25 v d ps)(hw: Wt Tryd.prog 25 d)
 (hU: DataW.Trod enc Tryd.prog W 0 (fun _ => true) true 26 u d' ps')(hu: Wt Tryd.prog 26 d')(hZ: DataW.Trod enc Tryd.prog W 0 (fun _ => true) true 3 z d'' ps'')(hz: Wt Tryd.prog 3 d'')
 (huv: ∃a len cap,u = .slice a len cap)(hzv: ∃n,z = .int .i64 n):
 Calls Tryd.prog 3 #[v,u,z] W fun e w' => e = .returned (.bool true)/\RowKit.Below W.heap.size W w':= by
 obtain ⟨fuel,ht⟩:= hT;obtain⟨fuel',ht'⟩:= hU;obtain⟨fuel'',ht''⟩:= hZ;obtain⟨acs,M,hsee,hlen,hmod,hok⟩:= AmEnv.mod_see AmEnv.env_ok ht hw;obtain⟨av,inp,hsee',hin,_⟩:= AmEnv.ints_see AmEnv.env_ok ht' hu;obtain⟨st,hsee''⟩:= AmEnv.int_see AmEnv.env_ok ht'' hz;obtain⟨hrep,_⟩:= Ht (cx:= cx0) (fun _ h => h) 9 fuel 25 v.cells.toList d ps acs ht hsee;obtain⟨hrep',_⟩:= Ht (cx:= cx0) (fun _ h => h) 9 fuel' 26 u.cells.toList d' ps' _ ht' hsee';obtain⟨hrep'',_⟩:= Ht (cx:= cx0) (fun _ h => h) 9 fuel'' 3 z.cells.toList d'' ps'' _ ht'' hsee'';have hrv: Rep W cx0 v (.agg acs):= by
  have hl:= hrep.1;rw[hlen]at hl;cases v with
  | agg cs => exact .agg cs acs (by simpa[Value.cells,hlen]using hl) (fun i v c h1 h2 => by
   obtain⟨v',k1,k2⟩:= hrep.get h2;have k1: cs.toList[i]? = some v':= k1;rw[Array.getElem?_toList,h1]at k1;cases k1;exact k2)
  |_ => simp[Value.cells]at hl
 have hru: Rep W cx0 u av:= by
  obtain⟨a,l,c,rfl⟩:= huv;obtain⟨v',k1,k2⟩:= hrep'.get (i:= 0) rfl;cases k1;exact k2
 have hrz: Rep W cx0 z (.int .i64 st):= by
  obtain⟨n,rfl⟩:= hzv;obtain⟨v',k1,k2⟩:= hrep''.get (i:= 0) rfl;cases k1;exact k2
 obtain⟨h',hc⟩:= AmEnv.CanonSame_ok AmEnv.pe_ok (st:= st) hok hmod hin;obtain⟨n,hrun⟩:= Vr hc (by intro e;cases e);exact nL AmEnv.env_ok (PM hL hsh) (args:= #[v,u,z]) (RepL.cons hrv (RepL.cons hru (RepL.cons hrz RepL.nil))) (by rw[hrun];rfl)
set_option maxRecDepth 100000 in
theorem lifted(os: Os)(started: os.Started)(H: Type)(enc: TypeId×Value -> H):
 ReturnsInHanded {} Tryd.checked os 3 .any (fun w args => (Rows.canonSameSpec.pre enc Tryd.prog Tryd.f3 [] false w args/\laidMetH Tryd.prog dK w)/\sizedMet enc Tryd.prog Tryd.f3 (OpenSpec.ofChange Rows.canonSameSpec) false w args)
  (Rows.canonSameSpec.post enc Tryd.prog Tryd.f3 false true false false):= by
 refine returnsInHanded_of_calls own started (by kernel_rfl)
  (ChangeSpec.witness_shaped (enc:= enc) (C:= Tryd.checked) (os:= os) (X:= fun w _ => laidMetH Tryd.prog dK w) false (World.doorLaid Tryd.prog 400 os) PL 9 rfl (World.shaped_of_RefB (by kernel_rfl) (by kernel_rfl)) (by kernel_rfl) (by kernel_rfl) (by kernel_rfl) (rC os _)) ?_
 intro w tape i _ hsh _ hok hpre hholds;obtain⟨_,_,_,fn',hfn',_,_,_,_,hval⟩:= hok;obtain rfl: fn' = Tryd.f3:= Option.some.inj (hfn'.symm.trans Tryd.func3);obtain⟨⟨⟨ds,gs,before,hw,hc⟩,hL⟩,⟨_,ds',gs',before',hw',hwt⟩⟩:= hpre;have hW:= DataW.Whole.of_heap (w':= w.forCall tape i) (by rfl) hw;have hWz:= DataW.Whole.of_heap (w':= w.forCall tape i) (by rfl) hw';have hL: laidMetH Tryd.prog dK (w.forCall tape i):= hL.of_heap (by rfl)
 suffices hcalls: Calls Tryd.prog 3 i.args (w.forCall tape i) fun e W' => ∃v,e = .returned v/\Rows.canonSameSpec.post enc Tryd.prog Tryd.f3 false true false false (w.forCall tape i) i.args v W' by
  refine hcalls.mono fun e W' ⟨v,he,hp⟩ => ?_
  subst he;exact ChangeSpec.post_blind hp
 generalize w.forCall tape i = W at hW hWz hL hsh hval;generalize i.args = args at hW hWz hval;have hW':= hW;obtain⟨p,q,hA0,hV,rfl,hfz,hnd⟩:= hW;have hA: DataW.TrodAll enc Tryd.prog W 0 (fun _ => true) true Tryd.f3.params.toList args.toList ds p:= hA0;obtain⟨pz,qz,hAz0,hVz,rfl,_,_⟩:= hWz;have hAz: DataW.TrodAll enc Tryd.prog W 0 (fun _ => true) true Tryd.f3.params.toList args.toList ds' pz:= hAz0;obtain⟨rfl,rfl⟩:= DataW.TrodAll.unique hA hAz;rw[Tryd.params3]at hA hwt;obtain⟨v,u,z,d,d',d'',p1,p2,p3,rfl,rfl,rfl,hT,hU,hZ⟩:= trodAll_three hA;obtain⟨rfl,rfl⟩:= trodVars_none hV;clear hA0 hAz0 hAz;simp only[List.append_nil]at hW';have hw1: Wt Tryd.prog 25 d:= fun x hx => of_decide_eq_true ((List.all_eq_true.1 hwt) x (N8 _ _ 0 25 d x rfl rfl hx))
 have hw2: Wt Tryd.prog 26 d':= fun x hx => of_decide_eq_true ((List.all_eq_true.1 hwt) x (N8 _ _ 1 26 d' x rfl rfl hx))
 have hw3: Wt Tryd.prog 3 d'':= fun x hx => of_decide_eq_true ((List.all_eq_true.1 hwt) x (N8 _ _ 2 3 d'' x rfl rfl hx))
 have hlt: ∀x∈p1++p2++p3,x.block<W.heap.size:= fun x hx => by simpa using hW'.lt x (by simpa using hx)
 have hst: ∀{t: TypeId}{v: Value}{d: DataW H}{ps: List MemPlace}{W': World}{sp: Nat -> Bool},DataW.Trod enc Tryd.prog W 0 (fun _ => true) true t v d ps -> Tryd.prog.readableRec t = true -> t<Tryd.prog.types.size -> (∀x∈ps,x∈p1++p2++p3) -> RowKit.Below W.heap.size W W' -> (∀x∈ps,sp x.block = true) -> DataW.Trod enc Tryd.prog W' 0 sp true t v d ps:= fun hT hr ht hm hg hs =>
  WideElems.Trod_stays laidOut hr ht hT (fun x hx => hg.same (hlt x (hm x hx))) hs
 refine(walk hL hsh hT hw1 hU hw2 hZ hw3 (okWide_slice Tryd.underlying26 (hval 1 26 u (by rw[Tryd.params3];rfl) rfl)) (okWide_int Tryd.underlying3 (hval 2 3 z (by rw[Tryd.params3];rfl) rfl))).mono fun e W' ⟨he,hg⟩ => ?_
 subst he;exact⟨_,rfl,Uu (pa:= p1++p2++p3) (pv:= []) hW' (fun _ _ _ => (trodAll_cons_mk (shut_bool Tryd.underlying4 _) trodAll_mk0)) (fun sp hsp => by
  rw[Tryd.params3,List.append_assoc];exact trodAll_mk3 (hst hT FU PN (fun x hx => by simp[hx]) hg (fun x hx => hsp x (by simp[hx]))) (hst hU FV PP (fun x hx => by simp[hx]) hg (fun x hx => hsp x (by simp[hx]))) (hst hZ FW PQ (fun x hx => by simp[hx]) hg (fun x hx => hsp x (by simp[hx])))) (fun _ _ => rfl) (by simp)
  hg (ok_one (by kernel_rfl) rfl (okWide_bool_mk Tryd.underlying4 _))⟩
theorem over: Rows.canonSameRow.holds Tryd.pinned (OpenSpec.ofChange Rows.canonSameSpec):=
 OpenClaim.holds_of_wide 3 Tryd.f3 rfl rfl rfl rfl rfl rfl rfl ⟨rfl,rfl,rfl,rfl,rfl⟩ rfl rfl rfl rfl rfl (by kernel_rfl) Tryd.func3 (by kernel_rfl)
  (of_decide_eq_true (by kernel_rfl)) (by unfold Func.isWrapper;first|(rw[if_pos (by decide +kernel)];kernel_rfl)|(rw[if_neg (by decide +kernel)];exact⟨rfl,rfl⟩))
  (fun os started H enc _ => lifted os started H enc)
theorem card_holds: Rows.CanonSameCardSaid:=
 Claim7.holds_tied_plain_at .later [] [.data] true (true, "4dd9795c6102cbbf991f57ab1c0fd15a0d663d1e257b0fa0c7a859187558032b") true
  over (fun _ h => by cases h) (by kernel_rfl) (fun _ h => by cases h) canonSame_row_tie rfl ⟨rfl,rfl⟩ (by kernel_rfl) rfl
  (fun f fn hf hfn => by
    obtain rfl : f = 3 := Option.some.inj ((show Tryd.prog.funcNamed "mortise/mortiselaw21.CanonSame" = some 3 by kernel_rfl).symm.trans hf) |>.symm
    obtain rfl: fn = Tryd.f3:= (Option.some.inj (Tryd.func3.symm.trans hfn)).symm;exact⟨by kernel_rfl,fun j t ht => by
     rw[Tryd.params3]at ht
     match j,ht with
     |0,ht => cases ht;exact(show Tryd.prog.wantsStandIn 25 = false by kernel_rfl)
     |1,ht => cases ht;exact(show Tryd.prog.wantsStandIn 26 = false by kernel_rfl)
     |2,ht => cases ht;exact(show Tryd.prog.wantsStandIn 3 = false by kernel_rfl)
     |j+3,ht => simp at ht⟩)
  (by kernel_rfl)
#print axioms card_holds
end Go.Proofs.YthoghikipmifeaaDoor.canonSame
