/-
  DERIVED. GIVEN WITH THE SEED: THE CARDS: each row of YthoghikipmifeaaDoorRows.lean that lists a variable, with what it lists TIED to the program's text (the seventh form; the later family's looks); each row that meets fmt, with fmt's text TOLD by the authors' own Lean function (tested against real Go, not proved from fmt's source: count such statements apart). THE CARD IS WHAT COUNTS. Prove the row's statement (the work); the ties are given (YthoghikipmifeaaDoorTie.lean); close each card by the builder's one call (the guide's Derived/Test/ToyasCard.lean, 'card_holds'). Laid BY PROGRAM, IN A SANDBOX (cutbox-door.mjs). By AI agents, Wed Nov 11 2026. No macro, syntax, notation, axiom, sorry.
-/
import Derived.Test.YthoghikipmifeaaDoorRows
import GoSem.ClaimSeven
namespace Go.Proofs.YthoghikipmifeaaDoor
namespace Rows

/-- THE TIED CARD OF 'mortiselaw21.CanonSame'. -/
def canonSameCard : Claim7 := { stood := { row := canonSameRow, standIns := [], harness := (true, "4dd9795c6102cbbf991f57ab1c0fd15a0d663d1e257b0fa0c7a859187558032b"), looks := true }, kinds := [], alts := [], laidByText := true, laidKinds := [.data], laidTests := true, laidLooks := .later }
def CanonSameCardSaid : Prop := Claim7.holds Tryd.pinned (.plain (OpenSpec.ofChange canonSameSpec)) canonSameCard

/-- THE SECOND FORM's CARD OF 'mortiselaw21.CanonSame'. -/
def canonSameUptoCard : Claim7 := { stood := { row := canonSameUptoRow, standIns := [], harness := (true, "4dd9795c6102cbbf991f57ab1c0fd15a0d663d1e257b0fa0c7a859187558032b"), looks := true }, kinds := [], alts := [], laidByText := true, laidKinds := [.data], laidTests := true, laidLooks := .later }
def CanonSameUptoCardSaid : Prop := Claim7.holds Tryd.pinned (.plain (OpenSpec.upto canonSameSpec)) canonSameUptoCard
end Rows
end Go.Proofs.YthoghikipmifeaaDoor
