/-
  No cell of these rows narrows 'for every input' (looked for: loops, veiled, ifaces, maps, wideKeys, modest, calm, conditions, laid).
  DERIVED. THE GIVEN ROWS OF THIS SEAT. 4 by the template 'for every input the law returns true; each argument reads behind the call as it read before'; 0 by the template 'total and deterministic' (their statements: YtbjdghdbfacjiaaTotals.lean).
  GIVEN WITH THE SEED: the statements are not yours to turn. If you find one false, say at which input.
  Laid BY PROGRAM, IN A SANDBOX (cutbox-rows.mjs): the forced cells as the released guide's own fill.sh prints them over the translation f7e152d1c3ceb1fe… (all of the seat's roots in one cut). By AI agents, Wed Nov 11 2026. No macro, syntax, notation, axiom, sorry.
-/
import Derived.Test.YtbjdghdbfacjiaaChecked
import GoSem.Claim
import GoSem.ClaimJoined
import GoSem.ClaimMapViews
import Derived.JoinedTies
import Derived.KernelRfl
namespace Go.Proofs.Ytbjdghdbfacjiaa
/- THE CELL 'sum', in the pinned program and in every row, IS THE sha256 OF THE DUMP (.gsa) THAT YtbjdghdbfacjiaaProg.lean LOADS. Nothing in Lean hashes anything: it is a label: what it is worth is what the hold of that sum in a sandbox is worth. -/
noncomputable def Try.pinned : Pinned := { name := "ytbjdghdbfacjiaa", sum := "f7e152d1c3ceb1fe12301393c274bf29207cd5cbd470ca58ccf2ef291a705238", checked := Try.checked }
namespace Rows
def none {H : Type} : Left H := { results := [], args := [] }

/-- 'mortiselaw10.DomKnown': WHATEVER THE INPUT: true; the input reads as it did. -/
def domKnownSpec : ChangeSpec := { name := "domKnown", fn := fun _ => fun
  | [] => { results := [.lit (.bool true)], args := [] }
  | _ => none }
def domKnownRow : OpenClaim := { program := "ytbjdghdbfacjiaa", sum := "f7e152d1c3ceb1fe12301393c274bf29207cd5cbd470ca58ccf2ef291a705238", func := "mortise/mortiselaw10.DomKnown", spec := "domKnown", unfollowed := true, recurses := true, apart := false }
def DomKnownSaid : Prop := domKnownRow.holds Try.pinned (OpenSpec.ofChange domKnownSpec)

/-- ITS FALSE NEIGHBOUR: 'it returns false'. Refute it at one input. -/
def domKnownWrong : ChangeSpec := { name := "domKnown", fn := fun _ => fun
  | [] => { results := [.lit (.bool false)], args := [] }
  | _ => none }
def DomKnownWrongFalsely : Prop := domKnownRow.holds Try.pinned (OpenSpec.ofChange domKnownWrong)

/-- 'mortiselaw18.ReachKnown': WHATEVER THE INPUT: true; the input reads as it did. -/
def reachKnownSpec : ChangeSpec := { name := "reachKnown", fn := fun _ => fun
  | [] => { results := [.lit (.bool true)], args := [] }
  | _ => none }
def reachKnownRow : OpenClaim := { program := "ytbjdghdbfacjiaa", sum := "f7e152d1c3ceb1fe12301393c274bf29207cd5cbd470ca58ccf2ef291a705238", func := "mortise/mortiselaw18.ReachKnown", spec := "reachKnown", unfollowed := true, recurses := true, apart := false }
def ReachKnownSaid : Prop := reachKnownRow.holds Try.pinned (OpenSpec.ofChange reachKnownSpec)

/-- ITS FALSE NEIGHBOUR: 'it returns false'. Refute it at one input. -/
def reachKnownWrong : ChangeSpec := { name := "reachKnown", fn := fun _ => fun
  | [] => { results := [.lit (.bool false)], args := [] }
  | _ => none }
def ReachKnownWrongFalsely : Prop := reachKnownRow.holds Try.pinned (OpenSpec.ofChange reachKnownWrong)

/-- 'mortiselaw08.OptKnown': WHATEVER THE INPUT: true; the input reads as it did. -/
def optKnownSpec : ChangeSpec := { name := "optKnown", fn := fun _ => fun
  | [] => { results := [.lit (.bool true)], args := [] }
  | _ => none }
def optKnownRow : OpenClaim := { program := "ytbjdghdbfacjiaa", sum := "f7e152d1c3ceb1fe12301393c274bf29207cd5cbd470ca58ccf2ef291a705238", func := "mortise/mortiselaw08.OptKnown", spec := "optKnown", unfollowed := true, recurses := true, apart := false }
def OptKnownSaid : Prop := optKnownRow.holds Try.pinned (OpenSpec.ofChange optKnownSpec)

/-- ITS FALSE NEIGHBOUR: 'it returns false'. Refute it at one input. -/
def optKnownWrong : ChangeSpec := { name := "optKnown", fn := fun _ => fun
  | [] => { results := [.lit (.bool false)], args := [] }
  | _ => none }
def OptKnownWrongFalsely : Prop := optKnownRow.holds Try.pinned (OpenSpec.ofChange optKnownWrong)

/-- 'mortiselaw16.ColourKnown': WHATEVER THE INPUT: true; the input reads as it did. -/
def colourKnownSpec : ChangeSpec := { name := "colourKnown", fn := fun _ => fun
  | [] => { results := [.lit (.bool true)], args := [] }
  | _ => none }
def colourKnownRow : OpenClaim := { program := "ytbjdghdbfacjiaa", sum := "f7e152d1c3ceb1fe12301393c274bf29207cd5cbd470ca58ccf2ef291a705238", func := "mortise/mortiselaw16.ColourKnown", spec := "colourKnown", unfollowed := true, recurses := true, apart := false }
def ColourKnownSaid : Prop := colourKnownRow.holds Try.pinned (OpenSpec.ofChange colourKnownSpec)

/-- ITS FALSE NEIGHBOUR: 'it returns false'. Refute it at one input. -/
def colourKnownWrong : ChangeSpec := { name := "colourKnown", fn := fun _ => fun
  | [] => { results := [.lit (.bool false)], args := [] }
  | _ => none }
def ColourKnownWrongFalsely : Prop := colourKnownRow.holds Try.pinned (OpenSpec.ofChange colourKnownWrong)

/- THE SECOND FORM. 'bulk': how many values and letters a reading holds, each counted each time it is reached (what is shared counts as often as it is met; a slice's spare places count too). A statement '..UptoSaid' is the law's where the arguments, and the package variables that the reading takes, are together of bulk at most 1048576: NARROWER than '..Said'. Prove '..Said' where nothing that the law and all that it calls make is longer than what came in: it says more and counts as full. Else prove '..UptoSaid'. A law counts once. -/
mutual
def uptoBulk {H : Type} : DataW H → Nat
  | .lit (.string bytes) => bytes.length + 1
  | .lit _ => 1
  | .nil => 1
  | .ptr d => uptoBulk d + 1
  | .slice elems spare => uptoBulkAll elems + uptoBulkAll spare + 1
  | .agg parts => uptoBulkAll parts + 1
  | .iface _ d => uptoBulk d + 1
  | .map entries => uptoBulkEntries entries + 1
  | .held _ => 1
def uptoBulkAll {H : Type} : List (DataW H) → Nat
  | [] => 0
  | d :: r => uptoBulk d + uptoBulkAll r
def uptoBulkEntries {H : Type} : List (Lit × DataW H) → Nat
  | [] => 0
  | x :: r => uptoBulkEntry x + uptoBulkEntries r
def uptoBulkEntry {H : Type} : Lit × DataW H → Nat
  | (.string bytes, d) => bytes.length + uptoBulk d + 1
  | (_, d) => uptoBulk d + 1
 end
def uptoSmall : (H : Type) → List (DataW H) → Bool := fun _ ds => decide (uptoBulkAll ds ≤ 1048576)
def OpenSpec.upto (s : _root_.Go.ChangeSpec) : _root_.Go.OpenSpec := { _root_.Go.OpenSpec.ofChange s with cond := some uptoSmall }

/-- 'mortiselaw10.DomKnown', WHERE WHAT IT READS IS OF BULK AT MOST 1048576: true; the input reads as it did. -/
def domKnownUptoRow : OpenClaim := { program := "ytbjdghdbfacjiaa", sum := "f7e152d1c3ceb1fe12301393c274bf29207cd5cbd470ca58ccf2ef291a705238", func := "mortise/mortiselaw10.DomKnown", spec := "domKnown", unfollowed := true, recurses := true, apart := false, narrowed := true }
def DomKnownUptoSaid : Prop := domKnownUptoRow.holds Try.pinned (OpenSpec.upto domKnownSpec)

/-- 'mortiselaw18.ReachKnown', WHERE WHAT IT READS IS OF BULK AT MOST 1048576: true; the input reads as it did. -/
def reachKnownUptoRow : OpenClaim := { program := "ytbjdghdbfacjiaa", sum := "f7e152d1c3ceb1fe12301393c274bf29207cd5cbd470ca58ccf2ef291a705238", func := "mortise/mortiselaw18.ReachKnown", spec := "reachKnown", unfollowed := true, recurses := true, apart := false, narrowed := true }
def ReachKnownUptoSaid : Prop := reachKnownUptoRow.holds Try.pinned (OpenSpec.upto reachKnownSpec)

/-- 'mortiselaw08.OptKnown', WHERE WHAT IT READS IS OF BULK AT MOST 1048576: true; the input reads as it did. -/
def optKnownUptoRow : OpenClaim := { program := "ytbjdghdbfacjiaa", sum := "f7e152d1c3ceb1fe12301393c274bf29207cd5cbd470ca58ccf2ef291a705238", func := "mortise/mortiselaw08.OptKnown", spec := "optKnown", unfollowed := true, recurses := true, apart := false, narrowed := true }
def OptKnownUptoSaid : Prop := optKnownUptoRow.holds Try.pinned (OpenSpec.upto optKnownSpec)

/-- 'mortiselaw16.ColourKnown', WHERE WHAT IT READS IS OF BULK AT MOST 1048576: true; the input reads as it did. -/
def colourKnownUptoRow : OpenClaim := { program := "ytbjdghdbfacjiaa", sum := "f7e152d1c3ceb1fe12301393c274bf29207cd5cbd470ca58ccf2ef291a705238", func := "mortise/mortiselaw16.ColourKnown", spec := "colourKnown", unfollowed := true, recurses := true, apart := false, narrowed := true }
def ColourKnownUptoSaid : Prop := colourKnownUptoRow.holds Try.pinned (OpenSpec.upto colourKnownSpec)

end Rows
end Go.Proofs.Ytbjdghdbfacjiaa
