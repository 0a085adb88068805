/-
  NARROWER THAN 'FOR EVERY INPUT', by the rows' own cells (each row's printed sentence says how): CanonMakes: laid · CanonRises: laid.
  DERIVED. THE GIVEN ROWS OF THIS SEAT. 2 by the template 'for every input the law returns true; each argument reads behind the call as it read before'; 0 by the template 'total and deterministic' (their statements: YthgknegndpoebaaDoorTotals.lean).
  GIVEN WITH THE SEED: the statements are not yours to turn. If you find one false, say at which input.
  Laid BY PROGRAM, IN A SANDBOX (cutbox-rows.mjs): the forced cells as the released guide's own fill.sh prints them over the translation 867f6bbabae07107… (all of the seat's roots in one cut). By AI agents, Wed Nov 11 2026. No macro, syntax, notation, axiom, sorry.
-/
import Derived.Test.YthgknegndpoebaaDoorChecked
import GoSem.Claim
import GoSem.ClaimJoined
import GoSem.ClaimMapViews
import Derived.JoinedTies
import Derived.KernelRfl
namespace Go.Proofs.YthgknegndpoebaaDoor
/- THE CELL 'sum', in the pinned program and in every row, IS THE sha256 OF THE DUMP (.gsa) THAT YthgknegndpoebaaDoorProg.lean LOADS. Nothing in Lean hashes anything: it is a label: what it is worth is what the hold of that sum in a sandbox is worth. -/
noncomputable def Tryd.pinned : Pinned := { name := "ythgknegndpoebaadoor", sum := "867f6bbabae071079428d2ad4b19a690b8bce1e39dde26e107370f5d11d30221", checked := Tryd.checked }
namespace Rows
def none {H : Type} : Left H := { results := [], args := [] }

/- WHAT THE LISTED PACKAGE-LEVEL VARIABLES READ AS WHEN THE CALL BEGINS. Each datum BY PROGRAM (the guide's laid-datum.mjs) off the statement by which the dump's own 'gosem.cut.vars' lays the variable. In a bare row this is a premise. The card (YthgknegndpoebaaDoorCards.lean) ties it to the program's text. -/
def laid_mortise_canon_mirrors {H : Type} : DataW H := .agg [.agg [.lit (.string [43]), .lit (.string [43])], .agg [.lit (.string [42]), .lit (.string [42])], .agg [.lit (.string [38]), .lit (.string [38])], .agg [.lit (.string [124]), .lit (.string [124])], .agg [.lit (.string [94]), .lit (.string [94])], .agg [.lit (.string [61, 61]), .lit (.string [61, 61])], .agg [.lit (.string [33, 61]), .lit (.string [33, 61])], .agg [.lit (.string [60]), .lit (.string [62])], .agg [.lit (.string [62]), .lit (.string [60])], .agg [.lit (.string [60, 61]), .lit (.string [62, 61])], .agg [.lit (.string [62, 61]), .lit (.string [60, 61])]]

/-- 'mortiselaw21.CanonMakes': WHATEVER THE INPUT: true; the input reads as it did. -/
def canonMakesSpec : ChangeSpec := { name := "canonMakes", fn := fun _ => fun
  | [d] => { results := [.lit (.bool true)], args := [d] }
  | _ => none }
def canonMakesRow : OpenClaim := { program := "ythgknegndpoebaadoor", sum := "867f6bbabae071079428d2ad4b19a690b8bce1e39dde26e107370f5d11d30221", func := "mortise/mortiselaw21.CanonMakes", spec := "canonMakes", inPlace := ["internal/bytealg.IndexByteString", "internal/bytealg.IndexString"], unfollowed := true, recurses := true, named := ["internal/bytealg.MaxLen", "mortise/canon.mirrors"], apart := false, laid := [("mortise/canon.mirrors", laid_mortise_canon_mirrors)] }
def CanonMakesSaid : Prop := canonMakesRow.holds Tryd.pinned (OpenSpec.ofChange canonMakesSpec)

/-- ITS FALSE NEIGHBOUR: 'it returns false'. Refute it at one input. -/
def canonMakesWrong : ChangeSpec := { name := "canonMakes", fn := fun _ => fun
  | [d] => { results := [.lit (.bool false)], args := [d] }
  | _ => none }
def CanonMakesWrongFalsely : Prop := canonMakesRow.holds Tryd.pinned (OpenSpec.ofChange canonMakesWrong)

/-- 'mortiselaw21.CanonRises': WHATEVER THE INPUT: true; the input reads as it did. -/
def canonRisesSpec : ChangeSpec := { name := "canonRises", fn := fun _ => fun
  | [d] => { results := [.lit (.bool true)], args := [d] }
  | _ => none }
def canonRisesRow : OpenClaim := { program := "ythgknegndpoebaadoor", sum := "867f6bbabae071079428d2ad4b19a690b8bce1e39dde26e107370f5d11d30221", func := "mortise/mortiselaw21.CanonRises", spec := "canonRises", inPlace := ["internal/bytealg.IndexByteString", "internal/bytealg.IndexString"], unfollowed := true, recurses := true, named := ["internal/bytealg.MaxLen", "mortise/canon.mirrors"], apart := false, laid := [("mortise/canon.mirrors", laid_mortise_canon_mirrors)] }
def CanonRisesSaid : Prop := canonRisesRow.holds Tryd.pinned (OpenSpec.ofChange canonRisesSpec)

/-- ITS FALSE NEIGHBOUR: 'it returns false'. Refute it at one input. -/
def canonRisesWrong : ChangeSpec := { name := "canonRises", fn := fun _ => fun
  | [d] => { results := [.lit (.bool false)], args := [d] }
  | _ => none }
def CanonRisesWrongFalsely : Prop := canonRisesRow.holds Tryd.pinned (OpenSpec.ofChange canonRisesWrong)

/- THE SECOND FORM. 'bulk': how many values and letters a reading holds, each counted each time it is reached (what is shared counts as often as it is met; a slice's spare places count too). A statement '..UptoSaid' is the law's where the arguments, and the package variables that the reading takes, are together of bulk at most 1048576: NARROWER than '..Said'. Prove '..Said' where nothing that the law and all that it calls make is longer than what came in: it says more and counts as full. Else prove '..UptoSaid'. A law counts once. -/
mutual
def uptoBulk {H : Type} : DataW H → Nat
  | .lit (.string bytes) => bytes.length + 1
  | .lit _ => 1
  | .nil => 1
  | .ptr d => uptoBulk d + 1
  | .slice elems spare => uptoBulkAll elems + uptoBulkAll spare + 1
  | .agg parts => uptoBulkAll parts + 1
  | .iface _ d => uptoBulk d + 1
  | .map entries => uptoBulkEntries entries + 1
  | .held _ => 1
def uptoBulkAll {H : Type} : List (DataW H) → Nat
  | [] => 0
  | d :: r => uptoBulk d + uptoBulkAll r
def uptoBulkEntries {H : Type} : List (Lit × DataW H) → Nat
  | [] => 0
  | x :: r => uptoBulkEntry x + uptoBulkEntries r
def uptoBulkEntry {H : Type} : Lit × DataW H → Nat
  | (.string bytes, d) => bytes.length + uptoBulk d + 1
  | (_, d) => uptoBulk d + 1
 end
def uptoSmall : (H : Type) → List (DataW H) → Bool := fun _ ds => decide (uptoBulkAll ds ≤ 1048576)
def OpenSpec.upto (s : _root_.Go.ChangeSpec) : _root_.Go.OpenSpec := { _root_.Go.OpenSpec.ofChange s with cond := some uptoSmall }

/-- 'mortiselaw21.CanonMakes', WHERE WHAT IT READS IS OF BULK AT MOST 1048576: true; the input reads as it did. -/
def canonMakesUptoRow : OpenClaim := { program := "ythgknegndpoebaadoor", sum := "867f6bbabae071079428d2ad4b19a690b8bce1e39dde26e107370f5d11d30221", func := "mortise/mortiselaw21.CanonMakes", spec := "canonMakes", inPlace := ["internal/bytealg.IndexByteString", "internal/bytealg.IndexString"], unfollowed := true, recurses := true, named := ["internal/bytealg.MaxLen", "mortise/canon.mirrors"], apart := false, laid := [("mortise/canon.mirrors", laid_mortise_canon_mirrors)], narrowed := true }
def CanonMakesUptoSaid : Prop := canonMakesUptoRow.holds Tryd.pinned (OpenSpec.upto canonMakesSpec)

/-- 'mortiselaw21.CanonRises', WHERE WHAT IT READS IS OF BULK AT MOST 1048576: true; the input reads as it did. -/
def canonRisesUptoRow : OpenClaim := { program := "ythgknegndpoebaadoor", sum := "867f6bbabae071079428d2ad4b19a690b8bce1e39dde26e107370f5d11d30221", func := "mortise/mortiselaw21.CanonRises", spec := "canonRises", inPlace := ["internal/bytealg.IndexByteString", "internal/bytealg.IndexString"], unfollowed := true, recurses := true, named := ["internal/bytealg.MaxLen", "mortise/canon.mirrors"], apart := false, laid := [("mortise/canon.mirrors", laid_mortise_canon_mirrors)], narrowed := true }
def CanonRisesUptoSaid : Prop := canonRisesUptoRow.holds Tryd.pinned (OpenSpec.upto canonRisesSpec)

end Rows
end Go.Proofs.YthgknegndpoebaaDoor
