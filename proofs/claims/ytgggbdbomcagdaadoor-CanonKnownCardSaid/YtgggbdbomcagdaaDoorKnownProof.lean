/- CanonKnown holds: the closed statement is run to its end by the abstract machine, inside the kernel. Conditions: none. -/
import Derived.Test.YtgggbdbomcagdaaDoorTie
import Derived.WalkKit
import Derived.ProofKit
import Derived.OpenShut
import Derived.LaidMore
import Derived.SevenTiedAt
import Derived.Test.YtgggbdbomcagdaaDoorCards
import Derived.Test.YtgggbdbomcagdaaDoorAmFour
import Derived.Test.YtgggbdbomcagdaaDoorEnv
namespace Go.Proofs.YtgggbdbomcagdaaDoor.canonKnown
open Go.ChangeShapes Go.WideShapes Go.ChangeAt Go.RowKit
set_option linter.unusedVariables false
open Go.AM

theorem own : ownKnob Tryd.prog.godebug = none := by kernel_rfl
theorem gMirrors : Tryd.prog.globalNamed "mortise/canon.mirrors" = some 0 := by kernel_rfl
def laid : List (String × DataW Unit) := [("mortise/canon.mirrors", Rows.laid_mortise_canon_mirrors)]
theorem door_met (os : Os) (args : Array Value) : laidMetH Tryd.prog laid ((World.doorLaid Tryd.prog 400 os).forCall (fun _ _ => 0) ⟨#[], args, []⟩).memory :=
  laidMetH_of_parts3 (fuel := 8) (laidMet_of_run' 8 (by kernel_rfl) (by kernel_rfl)) (by kernel_rfl) (by kernel_rfl)

def sA (l : List UInt8) : AV := .str l
def mirrorsL : List AV := [sA [43], sA [43], sA [42], sA [42], sA [38], sA [38], sA [124], sA [124], sA [94], sA [94], sA [61, 61], sA [61, 61], sA [33, 61], sA [33, 61], sA [60], sA [62], sA [62], sA [60], sA [60, 61], sA [62, 61], sA [62, 61], sA [60, 61]]
noncomputable def envD : Env := ⟨AmEnv.ti, AmEnv.fn, fun g => bif Nat.beq g 0 then some (.agg mirrorsL) else none⟩
theorem envD_ok : EnvOk envD Tryd.prog := ⟨AmEnv.env_ok.ti, AmEnv.env_ok.fn, AmEnv.env_ok.mixed⟩
theorem tMirrors : ∃ t, (Tryd.prog.globals[0]?).map (·.type) = some t ∧ seeA Tryd.prog 8 t (Rows.laid_mortise_canon_mirrors (H := Unit)) = some mirrorsL := ⟨_, rfl, by kernel_rfl⟩
theorem gl_ok {W : World} (h : laidMetH Tryd.prog laid W) : ∀ g v, envD.gl g = some v → Rep W cx0 (.pointer (some ⟨g, 0, none⟩)) (.fptr v 0) := by
  rw [MakeChecks.laidMetH_plain _ _ _ (by kernel_rfl)] at h
  obtain ⟨ps, ⟨g0, t0, cs0, f0, p0, q0, hg0, ht0, hv0, hd0, _⟩, _⟩ := h
  obtain rfl := Option.some.inj (gMirrors.symm.trans hg0)
  obtain ⟨t, ht, hsee⟩ := tMirrors
  obtain rfl := Option.some.inj (ht.symm.trans ht0)
  intro g v hg
  have hg : (bif Nat.beq g 0 then some (AV.agg mirrorsL) else none) = some v := hg
  cases hb : Nat.beq g 0 with
  | false => rw [hb] at hg; cases hg
  | true =>
    rw [hb] at hg
    cases hg
    have : g = 0 := Nat.eq_of_beq_eq_true hb
    subst this
    exact see_global gMirrors hv0 hd0 hsee (by intro e; cases e)
theorem known : isTrue (run envD 100000 3 [] Heap.empty) = true := by kernel_rfl

set_option maxRecDepth 100000 in
theorem lifted (os : Os) (started : os.Started) (H : Type) (enc : TypeId × Value → H) :
    ReturnsInHanded {} Tryd.checked os 3 .any (fun w args => (Rows.canonKnownSpec.pre enc Tryd.prog Tryd.f3 [] false w args ∧ laidMetH Tryd.prog laid w) ∧ sizedMet enc Tryd.prog Tryd.f3 (OpenSpec.ofChange Rows.canonKnownSpec) false w args)
      (Rows.canonKnownSpec.post enc Tryd.prog Tryd.f3 false true false false) := by
  refine returnsInHanded_of_change_and (C := Tryd.checked) (X := fun w _ => laidMetH Tryd.prog laid w) (fun _ _ _ hh h => h.of_heap hh) own started (by kernel_rfl) Tryd.func3
    (ChangeSpec.witness_shaped (enc := enc) (C := Tryd.checked) (os := os) (X := fun w _ => laidMetH Tryd.prog laid w) false (World.doorLaid Tryd.prog 400 os) #[] 8 rfl (World.shaped_of_RefB (by kernel_rfl) (by kernel_rfl)) (by kernel_rfl) (by kernel_rfl) (by kernel_rfl) (door_met os _)) ?_
  intro W base args ds gs before hval0 hW _ _ hL _
  have hval : ∀ (j : Nat) t v, Tryd.f3.params[j]? = some t → args[j]? = some v → Value.okWide Tryd.prog W .any base t v := hval0
  have hW' := hW
  obtain ⟨p, q, hA0, hV, rfl, hfz, hnd⟩ := hW
  have hA : DataW.TrodAll enc Tryd.prog W 0 (fun _ => true) true Tryd.f3.params.toList args.toList ds p := hA0
  rw [Tryd.params3] at hA hval
  obtain ⟨rfl, rfl, rfl⟩ := trodAll_none hA
  obtain ⟨rfl, rfl⟩ := trodVars_none hV
  clear hA0 hval0
  simp only [List.append_nil] at hW'
  refine (told_true (W := W) envD_ok (gl_ok hL) (args := #[]) RepL.nil known).mono fun e W' ⟨he, hg⟩ => ?_
  subst he
  exact ⟨_, rfl, post_of_below (pa := []) (pv := []) hW' (fun _ _ _ => (trodAll_cons_mk (shut_bool Tryd.underlying4 _) trodAll_mk0)) (fun sp _ => rfl) (fun _ _ => rfl) rfl
    hg (ok_one (by kernel_rfl) rfl (okWide_bool_mk Tryd.underlying4 _))⟩

theorem over : Rows.canonKnownRow.holds Tryd.pinned (OpenSpec.ofChange Rows.canonKnownSpec) :=
  OpenClaim.holds_of_wide 3 Tryd.f3 rfl rfl rfl rfl rfl rfl rfl ⟨rfl, rfl, rfl, rfl, rfl⟩ rfl rfl rfl rfl rfl (by kernel_rfl) Tryd.func3 (by kernel_rfl)
    (of_decide_eq_true (by kernel_rfl)) (by unfold Func.isWrapper; first | (rw [if_pos (by decide +kernel)]; kernel_rfl) | (rw [if_neg (by decide +kernel)]; exact ⟨rfl, rfl⟩))
    (fun os started H enc _ => lifted os started H enc)
theorem card_holds : Rows.CanonKnownCardSaid :=
  Claim7.holds_tied_plain_at .later [] [.data] true (true, "2b0b2cbc5810c10588d95f81f2d44c4d0e9ece035df30fdf26126a8ab8e02bd6") true
    over (fun _ h => by cases h) (by kernel_rfl) (fun _ h => by cases h) canonKnown_row_tie rfl ⟨rfl, rfl⟩ (by kernel_rfl) rfl
    (fun f fn hf hfn => by
      obtain rfl : f = 3 := Option.some.inj ((show Tryd.prog.funcNamed "mortise/mortiselaw21.CanonKnown" = some 3 by kernel_rfl).symm.trans hf) |>.symm
      obtain rfl : fn = Tryd.f3 := (Option.some.inj (Tryd.func3.symm.trans hfn)).symm
      exact ⟨by kernel_rfl, fun j t ht => by
        rw [Tryd.params3] at ht
        simp at ht⟩)
    (by kernel_rfl)
#print axioms card_holds
end Go.Proofs.YtgggbdbomcagdaaDoor.canonKnown
