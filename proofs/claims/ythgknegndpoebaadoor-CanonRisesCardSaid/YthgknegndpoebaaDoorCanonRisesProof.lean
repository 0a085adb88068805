/- CanonRises holds, of any module: the abstract machine goes over the law's code at any data. Conditions: none. -/
import Derived.Test.YthgknegndpoebaaDoorTie
import Derived.WalkKit
import Derived.ProofKit
import Derived.OpenShut
import Derived.LaidMore
import Derived.SevenTiedAt
import Derived.HandedShaped
import Derived.Carry
import Derived.ReadAgain
import Derived.Test.YthgknegndpoebaaDoorCards
import Derived.Test.YthgknegndpoebaaDoorGenC
namespace Go.Proofs.YthgknegndpoebaaDoor.canonRises
open Go.ChangeShapes Go.WideShapes Go.ChangeAt Go.RowKit
set_option linter.unusedVariables false
open Go.AM

theorem own : ownKnob Tryd.prog.godebug = none := by kernel_rfl
theorem gMirrors : Tryd.prog.globalNamed "mortise/canon.mirrors" = some 0 := by kernel_rfl
def laid : List (String × DataW Unit) := [("mortise/canon.mirrors", Rows.laid_mortise_canon_mirrors)]
def arg0 : Array Value := #[.agg #[.slice none 0 0, .slice none 0 0]]
theorem door_met (os : Os) (args : Array Value) : laidMetH Tryd.prog laid ((World.doorLaid Tryd.prog 400 os).forCall (fun _ _ => 0) ⟨#[], args, []⟩).memory :=
 laidMetH_of_parts3 (fuel := 8) (laidMet_of_run' 8 (by kernel_rfl) (by kernel_rfl)) (by kernel_rfl) (by kernel_rfl)
def sA (l : List UInt8) : AV := .str l
def mirrorsL : List AV := [sA [43], sA [43], sA [42], sA [42], sA [38], sA [38], sA [124], sA [124], sA [94], sA [94], sA [61, 61], sA [61, 61], sA [33, 61], sA [33, 61], sA [60], sA [62], sA [62], sA [60], sA [60, 61], sA [62, 61], sA [62, 61], sA [60, 61]]
theorem tMirrors : ∃ t, (Tryd.prog.globals[0]?).map (·.type) = some t ∧ seeA Tryd.prog 8 t (Rows.laid_mortise_canon_mirrors (H := Unit)) = some mirrorsL := ⟨_, rfl, by kernel_rfl⟩
theorem gl_ok {W : World} (h : laidMetH Tryd.prog laid W) : ∀ g v, AmEnv.env.gl g = some v → Rep W cx0 (.pointer (some ⟨g, 0, none⟩)) (.fptr v 0) := by
 rw [MakeChecks.laidMetH_plain _ _ _ (by kernel_rfl)] at h
 obtain ⟨ps, ⟨g0, t0, cs0, f0, p0, q0, hg0, ht0, hv0, hd0, _⟩, _⟩ := h
 obtain rfl := Option.some.inj (gMirrors.symm.trans hg0)
 obtain ⟨t, ht, hsee⟩ := tMirrors
 obtain rfl := Option.some.inj (ht.symm.trans ht0)
 intro g v hg
 have hg : (bif Nat.beq g 0 then some (AV.agg mirrorsL) else none) = some v := hg
 cases hb : Nat.beq g 0 with
 | false => rw [hb] at hg; cases hg
 | true =>
   rw [hb] at hg
   cases hg
   have : g = 0 := Nat.eq_of_beq_eq_true hb
   subst this
   exact see_global gMirrors hv0 hd0 hsee (by intro e; cases e)
theorem glok {W : World} (h : laidMetH Tryd.prog laid W) (hsh : W.ShapedOpen Tryd.prog) : GlOk AmEnv.env W cx0 :=
 ⟨gl_ok h, (glMx (E := { AmEnv.env with gl := fun _ => none }) rfl rfl (Go.Proofs.Tryd.laysM144.s1_3 W hsh)).int⟩
theorem laidOut : laidOutB Tryd.prog = true := by kernel_rfl
theorem readable : Tryd.prog.readableRec 25 = true := by kernel_rfl
theorem rowed : 25 < Tryd.prog.types.size := of_decide_eq_true (by kernel_rfl)

/-- The law at a module that is read: true, and what was there is as it was. -/
theorem walk {H : Type} {enc : TypeId × Value → H} {W : World} (hL : laidMetH Tryd.prog laid W) (hsh : W.ShapedOpen Tryd.prog) {v : Value} {d : DataW H} {ps : List MemPlace} (hT : DataW.Trod enc Tryd.prog W 0 (fun _ => true) true 25 v d ps) (hw : Wt Tryd.prog 25 d) :
   Calls Tryd.prog 4 #[v] W fun e w' => e = .returned (.bool true) ∧ RowKit.Below W.heap.size W w' := by
 obtain ⟨fuel, ht⟩ := hT
 obtain ⟨acs, M, hsee, hmod, hstr⟩ := AmEnv.mod_see AmEnv.env_ok ht hw
 obtain ⟨hrep, _⟩ := see_rep (cx := cx0) (fun _ h => h) 9 fuel 25 v.cells.toList d ps acs ht hsee
 have hlen : acs.length = 2 := by
   obtain ⟨gv, fv, e, _⟩ := hmod Heap.empty
   cases e; rfl
 have hrv : Rep W cx0 v (.agg acs) := by
   have hl := hrep.1
   rw [hlen] at hl
   cases v with
   | agg cs => exact .agg cs acs (by simpa [Value.cells, hlen] using hl) (fun i v c h1 h2 => by
       obtain ⟨v', k1, k2⟩ := hrep.get h2
       have k1 : cs.toList[i]? = some v' := k1
       rw [Array.getElem?_toList, h1] at k1
       cases k1; exact k2)
   | _ => simp [Value.cells] at hl
 obtain ⟨h', hc, _⟩ := AmEnv.CanonRises_ok (hmod Heap.empty) hstr
 obtain ⟨n, hrun⟩ := run_of_callω hc (by intro e; cases e)
 exact told_true AmEnv.env_ok (glok hL hsh) (args := #[v]) (RepL.cons hrv RepL.nil) (by rw [hrun]; rfl)

set_option maxRecDepth 100000 in
theorem lifted (os : Os) (started : os.Started) (H : Type) (enc : TypeId × Value → H) :
   ReturnsInHanded {} Tryd.checked os 4 .any (fun w args => (Rows.canonRisesSpec.pre enc Tryd.prog Tryd.f4 [] false w args ∧ laidMetH Tryd.prog laid w) ∧ sizedMet enc Tryd.prog Tryd.f4 (OpenSpec.ofChange Rows.canonRisesSpec) false w args)
     (Rows.canonRisesSpec.post enc Tryd.prog Tryd.f4 false true false false) := by
 refine returnsInHanded_of_calls own started (by kernel_rfl)
   (ChangeSpec.witness_shaped (enc := enc) (C := Tryd.checked) (os := os) (X := fun w _ => laidMetH Tryd.prog laid w) false (World.doorLaid Tryd.prog 400 os) arg0 8 rfl (World.shaped_of_RefB (by kernel_rfl) (by kernel_rfl)) (by kernel_rfl) (by kernel_rfl) (by kernel_rfl) (door_met os _)) ?_
 intro w tape i _ hsh _ hok hpre hholds
 obtain ⟨_, _, _, fn', hfn', _, _, _, _, hval⟩ := hok
 obtain rfl : fn' = Tryd.f4 := Option.some.inj (hfn'.symm.trans Tryd.func4)
 obtain ⟨⟨⟨ds, gs, before, hw, hc⟩, hL⟩, ⟨_, ds', gs', before', hw', hwt⟩⟩ := hpre
 have hW := DataW.Whole.of_heap (w' := w.forCall tape i) (by rfl) hw
 have hWz := DataW.Whole.of_heap (w' := w.forCall tape i) (by rfl) hw'
 have hL : laidMetH Tryd.prog laid (w.forCall tape i) := hL.of_heap (by rfl)
 suffices hcalls : Calls Tryd.prog 4 i.args (w.forCall tape i) fun e W' => ∃ v, e = .returned v ∧ Rows.canonRisesSpec.post enc Tryd.prog Tryd.f4 false true false false (w.forCall tape i) i.args v W' by
   refine hcalls.mono fun e W' ⟨v, he, hp⟩ => ?_
   subst he
   exact ChangeSpec.post_blind hp
 generalize w.forCall tape i = W at hW hWz hL hsh
 generalize i.args = args at hW hWz
 have hW' := hW
 obtain ⟨p, q, hA0, hV, rfl, hfz, hnd⟩ := hW
 have hA : DataW.TrodAll enc Tryd.prog W 0 (fun _ => true) true Tryd.f4.params.toList args.toList ds p := hA0
 obtain ⟨pz, qz, hAz0, hVz, rfl, _, _⟩ := hWz
 have hAz : DataW.TrodAll enc Tryd.prog W 0 (fun _ => true) true Tryd.f4.params.toList args.toList ds' pz := hAz0
 obtain ⟨rfl, rfl⟩ := DataW.TrodAll.unique hA hAz
 rw [Tryd.params4] at hA hwt
 obtain ⟨v, d, rfl, rfl, hT⟩ := trodAll_one hA
 obtain ⟨rfl, rfl⟩ := trodVars_none hV
 clear hA0 hAz0 hAz
 simp only [List.append_nil] at hW'
 have hwd : Wt Tryd.prog 25 d := fun x hx => of_decide_eq_true ((List.all_eq_true.1 hwt) x (weightsEach_mem _ _ 0 25 d x rfl rfl hx))
 have hlt : ∀ x ∈ p, x.block < W.heap.size := fun x hx => by simpa using hW'.lt x (by simpa using hx)
 refine (walk hL hsh hT hwd).mono fun e W' ⟨he, hg⟩ => ?_
 subst he
 exact ⟨_, rfl, post_of_below (pa := p) (pv := []) hW' (fun _ _ _ => (trodAll_cons_mk (shut_bool Tryd.underlying4 _) trodAll_mk0)) (fun sp hsp => by
     rw [Tryd.params4]
     exact trodAll_mk1 (WideElems.Trod_stays laidOut readable rowed hT (fun x hx => hg.same (hlt x hx)) (fun x hx => hsp x (by simpa using hx)))) (fun _ _ => rfl) (by simp)
   hg (ok_one (by kernel_rfl) rfl (okWide_bool_mk Tryd.underlying4 _))⟩

theorem over : Rows.canonRisesRow.holds Tryd.pinned (OpenSpec.ofChange Rows.canonRisesSpec) :=
 OpenClaim.holds_of_wide 4 Tryd.f4 rfl rfl rfl rfl rfl rfl rfl ⟨rfl, rfl, rfl, rfl, rfl⟩ rfl rfl rfl rfl rfl (by kernel_rfl) Tryd.func4 (by kernel_rfl)
   (of_decide_eq_true (by kernel_rfl)) (by unfold Func.isWrapper; first | (rw [if_pos (by decide +kernel)]; kernel_rfl) | (rw [if_neg (by decide +kernel)]; exact ⟨rfl, rfl⟩))
   (fun os started H enc _ => lifted os started H enc)
theorem card_holds : Rows.CanonRisesCardSaid :=
 Claim7.holds_tied_plain_at .later [] [.data] true (true, "45d5bb961d5e81b333ad3b028ac5ca79728b9aa352fc6fb6d35d361e9d150092") false
   over (fun _ h => by cases h) (by kernel_rfl) (fun _ h => by cases h) canonRises_row_tie rfl ⟨rfl, rfl⟩ (by kernel_rfl) rfl
   (fun f fn hf hfn => by
     obtain rfl : f = 4 := Option.some.inj ((show Tryd.prog.funcNamed "mortise/mortiselaw21.CanonRises" = some 4 by kernel_rfl).symm.trans hf) |>.symm
     obtain rfl : fn = Tryd.f4 := (Option.some.inj (Tryd.func4.symm.trans hfn)).symm
     exact ⟨by kernel_rfl, fun j t ht => by
       rw [Tryd.params4] at ht
       match j, ht with
       | 0, ht => cases ht; exact (show Tryd.prog.wantsStandIn 25 = false by kernel_rfl)
       | j + 1, ht => simp at ht⟩)
   (by kernel_rfl)
#print axioms card_holds
end Go.Proofs.YthgknegndpoebaaDoor.canonRises
