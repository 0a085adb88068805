/-
  DERIVED. GIVEN WITH THE SEED: THE CARDS: each row of YtgggbdbomcagdaaDoorRows.lean that lists a variable, with what it lists TIED to the program's text (the seventh form; the later family's looks); each row that meets fmt, with fmt's text TOLD by the authors' own Lean function (tested against real Go, not proved from fmt's source: count such statements apart). THE CARD IS WHAT COUNTS. Prove the row's statement (the work); the ties are given (YtgggbdbomcagdaaDoorTie.lean); close each card by the builder's one call (the guide's Derived/Test/ToyasCard.lean, 'card_holds'). Laid BY PROGRAM, IN A SANDBOX (cutbox-door.mjs). By AI agents, Wed Nov 11 2026. No macro, syntax, notation, axiom, sorry.
-/
import Derived.Test.YtgggbdbomcagdaaDoorRows
import GoSem.ClaimSeven
namespace Go.Proofs.YtgggbdbomcagdaaDoor
namespace Rows

/-- THE TIED CARD OF 'mortiselaw21.CanonKnown'. -/
def canonKnownCard : Claim7 := { stood := { row := canonKnownRow, standIns := [], harness := (true, "2b0b2cbc5810c10588d95f81f2d44c4d0e9ece035df30fdf26126a8ab8e02bd6"), looks := true }, kinds := [], alts := [], laidByText := true, laidKinds := [.data], laidTests := true, laidLooks := .later }
def CanonKnownCardSaid : Prop := Claim7.holds Tryd.pinned (.plain (OpenSpec.ofChange canonKnownSpec)) canonKnownCard

/-- THE TIED CARD OF 'mortiselaw21.CanonMakes'. -/
def canonMakesCard : Claim7 := { stood := { row := canonMakesRow, standIns := [], harness := (true, "2b0b2cbc5810c10588d95f81f2d44c4d0e9ece035df30fdf26126a8ab8e02bd6"), looks := true }, kinds := [], alts := [], laidByText := true, laidKinds := [.data], laidTests := true, laidLooks := .later }
def CanonMakesCardSaid : Prop := Claim7.holds Tryd.pinned (.plain (OpenSpec.ofChange canonMakesSpec)) canonMakesCard

/-- THE TIED CARD OF 'mortiselaw21.CanonRises'. -/
def canonRisesCard : Claim7 := { stood := { row := canonRisesRow, standIns := [], harness := (true, "2b0b2cbc5810c10588d95f81f2d44c4d0e9ece035df30fdf26126a8ab8e02bd6"), looks := true }, kinds := [], alts := [], laidByText := true, laidKinds := [.data], laidTests := true, laidLooks := .later }
def CanonRisesCardSaid : Prop := Claim7.holds Tryd.pinned (.plain (OpenSpec.ofChange canonRisesSpec)) canonRisesCard

/-- THE TIED CARD OF 'mortiselaw21.CanonSame'. -/
def canonSameCard : Claim7 := { stood := { row := canonSameRow, standIns := [], harness := (true, "2b0b2cbc5810c10588d95f81f2d44c4d0e9ece035df30fdf26126a8ab8e02bd6"), looks := true }, kinds := [], alts := [], laidByText := true, laidKinds := [.data], laidTests := true, laidLooks := .later }
def CanonSameCardSaid : Prop := Claim7.holds Tryd.pinned (.plain (OpenSpec.ofChange canonSameSpec)) canonSameCard

/-- THE SECOND FORM's CARD OF 'mortiselaw21.CanonKnown'. -/
def canonKnownUptoCard : Claim7 := { stood := { row := canonKnownUptoRow, standIns := [], harness := (true, "2b0b2cbc5810c10588d95f81f2d44c4d0e9ece035df30fdf26126a8ab8e02bd6"), looks := true }, kinds := [], alts := [], laidByText := true, laidKinds := [.data], laidTests := true, laidLooks := .later }
def CanonKnownUptoCardSaid : Prop := Claim7.holds Tryd.pinned (.plain (OpenSpec.upto canonKnownSpec)) canonKnownUptoCard

/-- THE SECOND FORM's CARD OF 'mortiselaw21.CanonMakes'. -/
def canonMakesUptoCard : Claim7 := { stood := { row := canonMakesUptoRow, standIns := [], harness := (true, "2b0b2cbc5810c10588d95f81f2d44c4d0e9ece035df30fdf26126a8ab8e02bd6"), looks := true }, kinds := [], alts := [], laidByText := true, laidKinds := [.data], laidTests := true, laidLooks := .later }
def CanonMakesUptoCardSaid : Prop := Claim7.holds Tryd.pinned (.plain (OpenSpec.upto canonMakesSpec)) canonMakesUptoCard

/-- THE SECOND FORM's CARD OF 'mortiselaw21.CanonRises'. -/
def canonRisesUptoCard : Claim7 := { stood := { row := canonRisesUptoRow, standIns := [], harness := (true, "2b0b2cbc5810c10588d95f81f2d44c4d0e9ece035df30fdf26126a8ab8e02bd6"), looks := true }, kinds := [], alts := [], laidByText := true, laidKinds := [.data], laidTests := true, laidLooks := .later }
def CanonRisesUptoCardSaid : Prop := Claim7.holds Tryd.pinned (.plain (OpenSpec.upto canonRisesSpec)) canonRisesUptoCard

/-- THE SECOND FORM's CARD OF 'mortiselaw21.CanonSame'. -/
def canonSameUptoCard : Claim7 := { stood := { row := canonSameUptoRow, standIns := [], harness := (true, "2b0b2cbc5810c10588d95f81f2d44c4d0e9ece035df30fdf26126a8ab8e02bd6"), looks := true }, kinds := [], alts := [], laidByText := true, laidKinds := [.data], laidTests := true, laidLooks := .later }
def CanonSameUptoCardSaid : Prop := Claim7.holds Tryd.pinned (.plain (OpenSpec.upto canonSameSpec)) canonSameUptoCard
end Rows
end Go.Proofs.YtgggbdbomcagdaaDoor
