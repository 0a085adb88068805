/-
  DERIVED. GIVEN WITH THE SEED: THE CARDS: each row of YthgknegndpoebaaDoorRows.lean that lists a variable, with what it lists TIED to the program's text (the seventh form; the later family's looks); each row that meets fmt, with fmt's text TOLD by the authors' own Lean function (tested against real Go, not proved from fmt's source: count such statements apart). THE CARD IS WHAT COUNTS. Prove the row's statement (the work); the ties are given (YthgknegndpoebaaDoorTie.lean); close each card by the builder's one call (the guide's Derived/Test/ToyasCard.lean, 'card_holds'). Laid BY PROGRAM, IN A SANDBOX (cutbox-door.mjs). By AI agents, Wed Nov 11 2026. No macro, syntax, notation, axiom, sorry.
-/
import Derived.Test.YthgknegndpoebaaDoorRows
import GoSem.ClaimSeven
namespace Go.Proofs.YthgknegndpoebaaDoor
namespace Rows

/-- THE TIED CARD OF 'mortiselaw21.CanonMakes'. -/
def canonMakesCard : Claim7 := { stood := { row := canonMakesRow, standIns := [], harness := (true, "45d5bb961d5e81b333ad3b028ac5ca79728b9aa352fc6fb6d35d361e9d150092"), looks := false }, kinds := [], alts := [], laidByText := true, laidKinds := [.data], laidTests := true, laidLooks := .later }
def CanonMakesCardSaid : Prop := Claim7.holds Tryd.pinned (.plain (OpenSpec.ofChange canonMakesSpec)) canonMakesCard

/-- THE TIED CARD OF 'mortiselaw21.CanonRises'. -/
def canonRisesCard : Claim7 := { stood := { row := canonRisesRow, standIns := [], harness := (true, "45d5bb961d5e81b333ad3b028ac5ca79728b9aa352fc6fb6d35d361e9d150092"), looks := false }, kinds := [], alts := [], laidByText := true, laidKinds := [.data], laidTests := true, laidLooks := .later }
def CanonRisesCardSaid : Prop := Claim7.holds Tryd.pinned (.plain (OpenSpec.ofChange canonRisesSpec)) canonRisesCard

/-- THE SECOND FORM's CARD OF 'mortiselaw21.CanonMakes'. -/
def canonMakesUptoCard : Claim7 := { stood := { row := canonMakesUptoRow, standIns := [], harness := (true, "45d5bb961d5e81b333ad3b028ac5ca79728b9aa352fc6fb6d35d361e9d150092"), looks := false }, kinds := [], alts := [], laidByText := true, laidKinds := [.data], laidTests := true, laidLooks := .later }
def CanonMakesUptoCardSaid : Prop := Claim7.holds Tryd.pinned (.plain (OpenSpec.upto canonMakesSpec)) canonMakesUptoCard

/-- THE SECOND FORM's CARD OF 'mortiselaw21.CanonRises'. -/
def canonRisesUptoCard : Claim7 := { stood := { row := canonRisesUptoRow, standIns := [], harness := (true, "45d5bb961d5e81b333ad3b028ac5ca79728b9aa352fc6fb6d35d361e9d150092"), looks := false }, kinds := [], alts := [], laidByText := true, laidKinds := [.data], laidTests := true, laidLooks := .later }
def CanonRisesUptoCardSaid : Prop := Claim7.holds Tryd.pinned (.plain (OpenSpec.upto canonRisesSpec)) canonRisesUptoCard
end Rows
end Go.Proofs.YthgknegndpoebaaDoor
