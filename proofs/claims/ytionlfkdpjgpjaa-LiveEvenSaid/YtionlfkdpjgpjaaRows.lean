/-
  No cell of these rows narrows 'for every input' (looked for: loops, veiled, ifaces, maps, wideKeys, modest, calm, conditions, laid).
  DERIVED. THE GIVEN ROWS OF THIS SEAT. 11 by the template 'for every input the law returns true; each argument reads behind the call as it read before'; 0 by the template 'total and deterministic' (their statements: YtionlfkdpjgpjaaTotals.lean).
  GIVEN WITH THE SEED: the statements are not yours to turn. If you find one false, say at which input.
  Laid BY PROGRAM, IN A SANDBOX (cutbox-rows.mjs): the forced cells as the released guide's own fill.sh prints them over the translation 50c4b42425938f1d… (all of the seat's roots in one cut). By AI agents, Wed Nov 11 2026. No macro, syntax, notation, axiom, sorry.
-/
import Derived.Test.YtionlfkdpjgpjaaChecked
import GoSem.Claim
import GoSem.ClaimJoined
import GoSem.ClaimMapViews
import Derived.JoinedTies
import Derived.KernelRfl
namespace Go.Proofs.Ytionlfkdpjgpjaa
/- THE CELL 'sum', in the pinned program and in every row, IS THE sha256 OF THE DUMP (.gsa) THAT YtionlfkdpjgpjaaProg.lean LOADS. Nothing in Lean hashes anything: it is a label: what it is worth is what the hold of that sum in a sandbox is worth. -/
noncomputable def Try.pinned : Pinned := { name := "ytionlfkdpjgpjaa", sum := "50c4b42425938f1d3f3f7cf3c8bead819cd6cfdb043337734c1eface12b6532a", checked := Try.checked }
namespace Rows
def none {H : Type} : Left H := { results := [], args := [] }

/-- 'mortiselaw19.TwinMakes': WHATEVER THE INPUT: true; the input reads as it did. -/
def twinMakesSpec : ChangeSpec := { name := "twinMakes", fn := fun _ => fun
  | [d] => { results := [.lit (.bool true)], args := [d] }
  | _ => none }
def twinMakesRow : OpenClaim := { program := "ytionlfkdpjgpjaa", sum := "50c4b42425938f1d3f3f7cf3c8bead819cd6cfdb043337734c1eface12b6532a", func := "mortise/mortiselaw19.TwinMakes", spec := "twinMakes", inPlace := ["internal/bytealg.IndexByteString", "internal/bytealg.IndexString"], unfollowed := true, recurses := true, named := ["internal/bytealg.MaxLen"], apart := false }
def TwinMakesSaid : Prop := twinMakesRow.holds Try.pinned (OpenSpec.ofChange twinMakesSpec)

/-- ITS FALSE NEIGHBOUR: 'it returns false'. Refute it at one input. -/
def twinMakesWrong : ChangeSpec := { name := "twinMakes", fn := fun _ => fun
  | [d] => { results := [.lit (.bool false)], args := [d] }
  | _ => none }
def TwinMakesWrongFalsely : Prop := twinMakesRow.holds Try.pinned (OpenSpec.ofChange twinMakesWrong)

/-- 'mortiselaw19.TwinFirst': WHATEVER THE INPUT: true; the input reads as it did. -/
def twinFirstSpec : ChangeSpec := { name := "twinFirst", fn := fun _ => fun
  | [d] => { results := [.lit (.bool true)], args := [d] }
  | _ => none }
def twinFirstRow : OpenClaim := { program := "ytionlfkdpjgpjaa", sum := "50c4b42425938f1d3f3f7cf3c8bead819cd6cfdb043337734c1eface12b6532a", func := "mortise/mortiselaw19.TwinFirst", spec := "twinFirst", inPlace := ["internal/bytealg.IndexByteString", "internal/bytealg.IndexString"], unfollowed := true, recurses := true, named := ["internal/bytealg.MaxLen"], apart := false }
def TwinFirstSaid : Prop := twinFirstRow.holds Try.pinned (OpenSpec.ofChange twinFirstSpec)

/-- ITS FALSE NEIGHBOUR: 'it returns false'. Refute it at one input. -/
def twinFirstWrong : ChangeSpec := { name := "twinFirst", fn := fun _ => fun
  | [d] => { results := [.lit (.bool false)], args := [d] }
  | _ => none }
def TwinFirstWrongFalsely : Prop := twinFirstRow.holds Try.pinned (OpenSpec.ofChange twinFirstWrong)

/-- 'mortiselaw27.DepthSays': WHATEVER THE INPUT: true; the input reads as it did. -/
def depthSaysSpec : ChangeSpec := { name := "depthSays", fn := fun _ => fun
  | [d] => { results := [.lit (.bool true)], args := [d] }
  | _ => none }
def depthSaysRow : OpenClaim := { program := "ytionlfkdpjgpjaa", sum := "50c4b42425938f1d3f3f7cf3c8bead819cd6cfdb043337734c1eface12b6532a", func := "mortise/mortiselaw27.DepthSays", spec := "depthSays", inPlace := ["internal/bytealg.IndexByteString", "internal/bytealg.IndexString"], unfollowed := true, recurses := true, named := ["internal/bytealg.MaxLen"], apart := false }
def DepthSaysSaid : Prop := depthSaysRow.holds Try.pinned (OpenSpec.ofChange depthSaysSpec)

/-- ITS FALSE NEIGHBOUR: 'it returns false'. Refute it at one input. -/
def depthSaysWrong : ChangeSpec := { name := "depthSays", fn := fun _ => fun
  | [d] => { results := [.lit (.bool false)], args := [d] }
  | _ => none }
def DepthSaysWrongFalsely : Prop := depthSaysRow.holds Try.pinned (OpenSpec.ofChange depthSaysWrong)

/-- 'mortiselaw15.LiveSays': WHATEVER THE INPUT: true; the input reads as it did. -/
def liveSaysSpec : ChangeSpec := { name := "liveSays", fn := fun _ => fun
  | [d] => { results := [.lit (.bool true)], args := [d] }
  | _ => none }
def liveSaysRow : OpenClaim := { program := "ytionlfkdpjgpjaa", sum := "50c4b42425938f1d3f3f7cf3c8bead819cd6cfdb043337734c1eface12b6532a", func := "mortise/mortiselaw15.LiveSays", spec := "liveSays", inPlace := ["internal/bytealg.IndexByteString", "internal/bytealg.IndexString"], unfollowed := true, recurses := true, named := ["internal/bytealg.MaxLen"], apart := false }
def LiveSaysSaid : Prop := liveSaysRow.holds Try.pinned (OpenSpec.ofChange liveSaysSpec)

/-- ITS FALSE NEIGHBOUR: 'it returns false'. Refute it at one input. -/
def liveSaysWrong : ChangeSpec := { name := "liveSays", fn := fun _ => fun
  | [d] => { results := [.lit (.bool false)], args := [d] }
  | _ => none }
def LiveSaysWrongFalsely : Prop := liveSaysRow.holds Try.pinned (OpenSpec.ofChange liveSaysWrong)

/-- 'mortiselaw15.LiveEven': WHATEVER THE INPUT: true; the input reads as it did. -/
def liveEvenSpec : ChangeSpec := { name := "liveEven", fn := fun _ => fun
  | [d] => { results := [.lit (.bool true)], args := [d] }
  | _ => none }
def liveEvenRow : OpenClaim := { program := "ytionlfkdpjgpjaa", sum := "50c4b42425938f1d3f3f7cf3c8bead819cd6cfdb043337734c1eface12b6532a", func := "mortise/mortiselaw15.LiveEven", spec := "liveEven", inPlace := ["internal/bytealg.IndexByteString", "internal/bytealg.IndexString"], unfollowed := true, recurses := true, named := ["internal/bytealg.MaxLen"], apart := false }
def LiveEvenSaid : Prop := liveEvenRow.holds Try.pinned (OpenSpec.ofChange liveEvenSpec)

/-- ITS FALSE NEIGHBOUR: 'it returns false'. Refute it at one input. -/
def liveEvenWrong : ChangeSpec := { name := "liveEven", fn := fun _ => fun
  | [d] => { results := [.lit (.bool false)], args := [d] }
  | _ => none }
def LiveEvenWrongFalsely : Prop := liveEvenRow.holds Try.pinned (OpenSpec.ofChange liveEvenWrong)

/-- 'mortiselaw08.OptLess': WHATEVER THE INPUT: true; the input reads as it did. -/
def optLessSpec : ChangeSpec := { name := "optLess", fn := fun _ => fun
  | [d] => { results := [.lit (.bool true)], args := [d] }
  | _ => none }
def optLessRow : OpenClaim := { program := "ytionlfkdpjgpjaa", sum := "50c4b42425938f1d3f3f7cf3c8bead819cd6cfdb043337734c1eface12b6532a", func := "mortise/mortiselaw08.OptLess", spec := "optLess", inPlace := ["internal/bytealg.IndexByteString", "internal/bytealg.IndexString"], unfollowed := true, recurses := true, named := ["internal/bytealg.MaxLen"], apart := false }
def OptLessSaid : Prop := optLessRow.holds Try.pinned (OpenSpec.ofChange optLessSpec)

/-- ITS FALSE NEIGHBOUR: 'it returns false'. Refute it at one input. -/
def optLessWrong : ChangeSpec := { name := "optLess", fn := fun _ => fun
  | [d] => { results := [.lit (.bool false)], args := [d] }
  | _ => none }
def OptLessWrongFalsely : Prop := optLessRow.holds Try.pinned (OpenSpec.ofChange optLessWrong)

/-- 'mortiselaw17.CseMakes': WHATEVER THE INPUT: true; the input reads as it did. -/
def cseMakesSpec : ChangeSpec := { name := "cseMakes", fn := fun _ => fun
  | [d] => { results := [.lit (.bool true)], args := [d] }
  | _ => none }
def cseMakesRow : OpenClaim := { program := "ytionlfkdpjgpjaa", sum := "50c4b42425938f1d3f3f7cf3c8bead819cd6cfdb043337734c1eface12b6532a", func := "mortise/mortiselaw17.CseMakes", spec := "cseMakes", inPlace := ["internal/bytealg.IndexByteString", "internal/bytealg.IndexString"], unfollowed := true, recurses := true, named := ["internal/bytealg.MaxLen"], apart := false }
def CseMakesSaid : Prop := cseMakesRow.holds Try.pinned (OpenSpec.ofChange cseMakesSpec)

/-- ITS FALSE NEIGHBOUR: 'it returns false'. Refute it at one input. -/
def cseMakesWrong : ChangeSpec := { name := "cseMakes", fn := fun _ => fun
  | [d] => { results := [.lit (.bool false)], args := [d] }
  | _ => none }
def CseMakesWrongFalsely : Prop := cseMakesRow.holds Try.pinned (OpenSpec.ofChange cseMakesWrong)

/-- 'mortiselaw17.CseKeeps': WHATEVER THE INPUT: true; the input reads as it did. -/
def cseKeepsSpec : ChangeSpec := { name := "cseKeeps", fn := fun _ => fun
  | [d] => { results := [.lit (.bool true)], args := [d] }
  | _ => none }
def cseKeepsRow : OpenClaim := { program := "ytionlfkdpjgpjaa", sum := "50c4b42425938f1d3f3f7cf3c8bead819cd6cfdb043337734c1eface12b6532a", func := "mortise/mortiselaw17.CseKeeps", spec := "cseKeeps", inPlace := ["internal/bytealg.IndexByteString", "internal/bytealg.IndexString"], unfollowed := true, recurses := true, named := ["internal/bytealg.MaxLen"], apart := false }
def CseKeepsSaid : Prop := cseKeepsRow.holds Try.pinned (OpenSpec.ofChange cseKeepsSpec)

/-- ITS FALSE NEIGHBOUR: 'it returns false'. Refute it at one input. -/
def cseKeepsWrong : ChangeSpec := { name := "cseKeeps", fn := fun _ => fun
  | [d] => { results := [.lit (.bool false)], args := [d] }
  | _ => none }
def CseKeepsWrongFalsely : Prop := cseKeepsRow.holds Try.pinned (OpenSpec.ofChange cseKeepsWrong)

/-- 'mortiselaw09.ThreadMakes': WHATEVER THE INPUT: true; the input reads as it did. -/
def threadMakesSpec : ChangeSpec := { name := "threadMakes", fn := fun _ => fun
  | [d] => { results := [.lit (.bool true)], args := [d] }
  | _ => none }
def threadMakesRow : OpenClaim := { program := "ytionlfkdpjgpjaa", sum := "50c4b42425938f1d3f3f7cf3c8bead819cd6cfdb043337734c1eface12b6532a", func := "mortise/mortiselaw09.ThreadMakes", spec := "threadMakes", inPlace := ["internal/bytealg.IndexByteString", "internal/bytealg.IndexString"], unfollowed := true, recurses := true, named := ["internal/bytealg.MaxLen"], apart := false }
def ThreadMakesSaid : Prop := threadMakesRow.holds Try.pinned (OpenSpec.ofChange threadMakesSpec)

/-- ITS FALSE NEIGHBOUR: 'it returns false'. Refute it at one input. -/
def threadMakesWrong : ChangeSpec := { name := "threadMakes", fn := fun _ => fun
  | [d] => { results := [.lit (.bool false)], args := [d] }
  | _ => none }
def ThreadMakesWrongFalsely : Prop := threadMakesRow.holds Try.pinned (OpenSpec.ofChange threadMakesWrong)

/-- 'mortiselaw09.ThreadLess': WHATEVER THE INPUT: true; the input reads as it did. -/
def threadLessSpec : ChangeSpec := { name := "threadLess", fn := fun _ => fun
  | [d] => { results := [.lit (.bool true)], args := [d] }
  | _ => none }
def threadLessRow : OpenClaim := { program := "ytionlfkdpjgpjaa", sum := "50c4b42425938f1d3f3f7cf3c8bead819cd6cfdb043337734c1eface12b6532a", func := "mortise/mortiselaw09.ThreadLess", spec := "threadLess", inPlace := ["internal/bytealg.IndexByteString", "internal/bytealg.IndexString"], unfollowed := true, recurses := true, named := ["internal/bytealg.MaxLen"], apart := false }
def ThreadLessSaid : Prop := threadLessRow.holds Try.pinned (OpenSpec.ofChange threadLessSpec)

/-- ITS FALSE NEIGHBOUR: 'it returns false'. Refute it at one input. -/
def threadLessWrong : ChangeSpec := { name := "threadLess", fn := fun _ => fun
  | [d] => { results := [.lit (.bool false)], args := [d] }
  | _ => none }
def ThreadLessWrongFalsely : Prop := threadLessRow.holds Try.pinned (OpenSpec.ofChange threadLessWrong)

/-- 'mortiselaw18.ReachMakes': WHATEVER THE INPUT: true; the input reads as it did. -/
def reachMakesSpec : ChangeSpec := { name := "reachMakes", fn := fun _ => fun
  | [d] => { results := [.lit (.bool true)], args := [d] }
  | _ => none }
def reachMakesRow : OpenClaim := { program := "ytionlfkdpjgpjaa", sum := "50c4b42425938f1d3f3f7cf3c8bead819cd6cfdb043337734c1eface12b6532a", func := "mortise/mortiselaw18.ReachMakes", spec := "reachMakes", inPlace := ["internal/bytealg.IndexByteString", "internal/bytealg.IndexString"], unfollowed := true, recurses := true, named := ["internal/bytealg.MaxLen"], apart := false }
def ReachMakesSaid : Prop := reachMakesRow.holds Try.pinned (OpenSpec.ofChange reachMakesSpec)

/-- ITS FALSE NEIGHBOUR: 'it returns false'. Refute it at one input. -/
def reachMakesWrong : ChangeSpec := { name := "reachMakes", fn := fun _ => fun
  | [d] => { results := [.lit (.bool false)], args := [d] }
  | _ => none }
def ReachMakesWrongFalsely : Prop := reachMakesRow.holds Try.pinned (OpenSpec.ofChange reachMakesWrong)

/- THE SECOND FORM. 'bulk': how many values and letters a reading holds, each counted each time it is reached (what is shared counts as often as it is met; a slice's spare places count too). A statement '..UptoSaid' is the law's where the arguments, and the package variables that the reading takes, are together of bulk at most 1048576: NARROWER than '..Said'. Prove '..Said' where nothing that the law and all that it calls make is longer than what came in: it says more and counts as full. Else prove '..UptoSaid'. A law counts once. -/
mutual
def uptoBulk {H : Type} : DataW H → Nat
  | .lit (.string bytes) => bytes.length + 1
  | .lit _ => 1
  | .nil => 1
  | .ptr d => uptoBulk d + 1
  | .slice elems spare => uptoBulkAll elems + uptoBulkAll spare + 1
  | .agg parts => uptoBulkAll parts + 1
  | .iface _ d => uptoBulk d + 1
  | .map entries => uptoBulkEntries entries + 1
  | .held _ => 1
def uptoBulkAll {H : Type} : List (DataW H) → Nat
  | [] => 0
  | d :: r => uptoBulk d + uptoBulkAll r
def uptoBulkEntries {H : Type} : List (Lit × DataW H) → Nat
  | [] => 0
  | x :: r => uptoBulkEntry x + uptoBulkEntries r
def uptoBulkEntry {H : Type} : Lit × DataW H → Nat
  | (.string bytes, d) => bytes.length + uptoBulk d + 1
  | (_, d) => uptoBulk d + 1
 end
def uptoSmall : (H : Type) → List (DataW H) → Bool := fun _ ds => decide (uptoBulkAll ds ≤ 1048576)
def OpenSpec.upto (s : _root_.Go.ChangeSpec) : _root_.Go.OpenSpec := { _root_.Go.OpenSpec.ofChange s with cond := some uptoSmall }

/-- 'mortiselaw19.TwinMakes', WHERE WHAT IT READS IS OF BULK AT MOST 1048576: true; the input reads as it did. -/
def twinMakesUptoRow : OpenClaim := { program := "ytionlfkdpjgpjaa", sum := "50c4b42425938f1d3f3f7cf3c8bead819cd6cfdb043337734c1eface12b6532a", func := "mortise/mortiselaw19.TwinMakes", spec := "twinMakes", inPlace := ["internal/bytealg.IndexByteString", "internal/bytealg.IndexString"], unfollowed := true, recurses := true, named := ["internal/bytealg.MaxLen"], apart := false, narrowed := true }
def TwinMakesUptoSaid : Prop := twinMakesUptoRow.holds Try.pinned (OpenSpec.upto twinMakesSpec)

/-- 'mortiselaw19.TwinFirst', WHERE WHAT IT READS IS OF BULK AT MOST 1048576: true; the input reads as it did. -/
def twinFirstUptoRow : OpenClaim := { program := "ytionlfkdpjgpjaa", sum := "50c4b42425938f1d3f3f7cf3c8bead819cd6cfdb043337734c1eface12b6532a", func := "mortise/mortiselaw19.TwinFirst", spec := "twinFirst", inPlace := ["internal/bytealg.IndexByteString", "internal/bytealg.IndexString"], unfollowed := true, recurses := true, named := ["internal/bytealg.MaxLen"], apart := false, narrowed := true }
def TwinFirstUptoSaid : Prop := twinFirstUptoRow.holds Try.pinned (OpenSpec.upto twinFirstSpec)

/-- 'mortiselaw27.DepthSays', WHERE WHAT IT READS IS OF BULK AT MOST 1048576: true; the input reads as it did. -/
def depthSaysUptoRow : OpenClaim := { program := "ytionlfkdpjgpjaa", sum := "50c4b42425938f1d3f3f7cf3c8bead819cd6cfdb043337734c1eface12b6532a", func := "mortise/mortiselaw27.DepthSays", spec := "depthSays", inPlace := ["internal/bytealg.IndexByteString", "internal/bytealg.IndexString"], unfollowed := true, recurses := true, named := ["internal/bytealg.MaxLen"], apart := false, narrowed := true }
def DepthSaysUptoSaid : Prop := depthSaysUptoRow.holds Try.pinned (OpenSpec.upto depthSaysSpec)

/-- 'mortiselaw15.LiveSays', WHERE WHAT IT READS IS OF BULK AT MOST 1048576: true; the input reads as it did. -/
def liveSaysUptoRow : OpenClaim := { program := "ytionlfkdpjgpjaa", sum := "50c4b42425938f1d3f3f7cf3c8bead819cd6cfdb043337734c1eface12b6532a", func := "mortise/mortiselaw15.LiveSays", spec := "liveSays", inPlace := ["internal/bytealg.IndexByteString", "internal/bytealg.IndexString"], unfollowed := true, recurses := true, named := ["internal/bytealg.MaxLen"], apart := false, narrowed := true }
def LiveSaysUptoSaid : Prop := liveSaysUptoRow.holds Try.pinned (OpenSpec.upto liveSaysSpec)

/-- 'mortiselaw15.LiveEven', WHERE WHAT IT READS IS OF BULK AT MOST 1048576: true; the input reads as it did. -/
def liveEvenUptoRow : OpenClaim := { program := "ytionlfkdpjgpjaa", sum := "50c4b42425938f1d3f3f7cf3c8bead819cd6cfdb043337734c1eface12b6532a", func := "mortise/mortiselaw15.LiveEven", spec := "liveEven", inPlace := ["internal/bytealg.IndexByteString", "internal/bytealg.IndexString"], unfollowed := true, recurses := true, named := ["internal/bytealg.MaxLen"], apart := false, narrowed := true }
def LiveEvenUptoSaid : Prop := liveEvenUptoRow.holds Try.pinned (OpenSpec.upto liveEvenSpec)

/-- 'mortiselaw08.OptLess', WHERE WHAT IT READS IS OF BULK AT MOST 1048576: true; the input reads as it did. -/
def optLessUptoRow : OpenClaim := { program := "ytionlfkdpjgpjaa", sum := "50c4b42425938f1d3f3f7cf3c8bead819cd6cfdb043337734c1eface12b6532a", func := "mortise/mortiselaw08.OptLess", spec := "optLess", inPlace := ["internal/bytealg.IndexByteString", "internal/bytealg.IndexString"], unfollowed := true, recurses := true, named := ["internal/bytealg.MaxLen"], apart := false, narrowed := true }
def OptLessUptoSaid : Prop := optLessUptoRow.holds Try.pinned (OpenSpec.upto optLessSpec)

/-- 'mortiselaw17.CseMakes', WHERE WHAT IT READS IS OF BULK AT MOST 1048576: true; the input reads as it did. -/
def cseMakesUptoRow : OpenClaim := { program := "ytionlfkdpjgpjaa", sum := "50c4b42425938f1d3f3f7cf3c8bead819cd6cfdb043337734c1eface12b6532a", func := "mortise/mortiselaw17.CseMakes", spec := "cseMakes", inPlace := ["internal/bytealg.IndexByteString", "internal/bytealg.IndexString"], unfollowed := true, recurses := true, named := ["internal/bytealg.MaxLen"], apart := false, narrowed := true }
def CseMakesUptoSaid : Prop := cseMakesUptoRow.holds Try.pinned (OpenSpec.upto cseMakesSpec)

/-- 'mortiselaw17.CseKeeps', WHERE WHAT IT READS IS OF BULK AT MOST 1048576: true; the input reads as it did. -/
def cseKeepsUptoRow : OpenClaim := { program := "ytionlfkdpjgpjaa", sum := "50c4b42425938f1d3f3f7cf3c8bead819cd6cfdb043337734c1eface12b6532a", func := "mortise/mortiselaw17.CseKeeps", spec := "cseKeeps", inPlace := ["internal/bytealg.IndexByteString", "internal/bytealg.IndexString"], unfollowed := true, recurses := true, named := ["internal/bytealg.MaxLen"], apart := false, narrowed := true }
def CseKeepsUptoSaid : Prop := cseKeepsUptoRow.holds Try.pinned (OpenSpec.upto cseKeepsSpec)

/-- 'mortiselaw09.ThreadMakes', WHERE WHAT IT READS IS OF BULK AT MOST 1048576: true; the input reads as it did. -/
def threadMakesUptoRow : OpenClaim := { program := "ytionlfkdpjgpjaa", sum := "50c4b42425938f1d3f3f7cf3c8bead819cd6cfdb043337734c1eface12b6532a", func := "mortise/mortiselaw09.ThreadMakes", spec := "threadMakes", inPlace := ["internal/bytealg.IndexByteString", "internal/bytealg.IndexString"], unfollowed := true, recurses := true, named := ["internal/bytealg.MaxLen"], apart := false, narrowed := true }
def ThreadMakesUptoSaid : Prop := threadMakesUptoRow.holds Try.pinned (OpenSpec.upto threadMakesSpec)

/-- 'mortiselaw09.ThreadLess', WHERE WHAT IT READS IS OF BULK AT MOST 1048576: true; the input reads as it did. -/
def threadLessUptoRow : OpenClaim := { program := "ytionlfkdpjgpjaa", sum := "50c4b42425938f1d3f3f7cf3c8bead819cd6cfdb043337734c1eface12b6532a", func := "mortise/mortiselaw09.ThreadLess", spec := "threadLess", inPlace := ["internal/bytealg.IndexByteString", "internal/bytealg.IndexString"], unfollowed := true, recurses := true, named := ["internal/bytealg.MaxLen"], apart := false, narrowed := true }
def ThreadLessUptoSaid : Prop := threadLessUptoRow.holds Try.pinned (OpenSpec.upto threadLessSpec)

/-- 'mortiselaw18.ReachMakes', WHERE WHAT IT READS IS OF BULK AT MOST 1048576: true; the input reads as it did. -/
def reachMakesUptoRow : OpenClaim := { program := "ytionlfkdpjgpjaa", sum := "50c4b42425938f1d3f3f7cf3c8bead819cd6cfdb043337734c1eface12b6532a", func := "mortise/mortiselaw18.ReachMakes", spec := "reachMakes", inPlace := ["internal/bytealg.IndexByteString", "internal/bytealg.IndexString"], unfollowed := true, recurses := true, named := ["internal/bytealg.MaxLen"], apart := false, narrowed := true }
def ReachMakesUptoSaid : Prop := reachMakesUptoRow.holds Try.pinned (OpenSpec.upto reachMakesSpec)

end Rows
end Go.Proofs.Ytionlfkdpjgpjaa
