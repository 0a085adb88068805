/-
  No cell of these rows narrows 'for every input' (looked for: loops, veiled, ifaces, maps, wideKeys, modest, calm, conditions, laid).
  DERIVED. THE GIVEN ROWS OF THIS SEAT. 5 by the template 'for every input the law returns true; each argument reads behind the call as it read before'; 0 by the template 'total and deterministic' (their statements: YtbgkdlhkmhpdcaaGreatTotals.lean).
  GIVEN WITH THE SEED: the statements are not yours to turn. If you find one false, say at which input.
  Laid BY PROGRAM, IN A SANDBOX (cutbox-rows.mjs): the forced cells as the released guide's own fill.sh prints them over the translation 05e2d2ec444b9841… (all of the seat's roots in one cut). By AI agents, Wed Nov 11 2026. No macro, syntax, notation, axiom, sorry.
-/
import Derived.Test.YtbgkdlhkmhpdcaaGreatChecked
import GoSem.Claim
import GoSem.ClaimJoined
import GoSem.ClaimMapViews
import Derived.JoinedTies
import Derived.KernelRfl
namespace Go.Proofs.YtbgkdlhkmhpdcaaGreat
/- THE CELL 'sum', in the pinned program and in every row, IS THE sha256 OF THE DUMP (.gsa) THAT YtbgkdlhkmhpdcaaGreatProg.lean LOADS. Nothing in Lean hashes anything: it is a label: what it is worth is what the hold of that sum in a sandbox is worth. -/
noncomputable def Tryz.pinned : Pinned := { name := "ytbgkdlhkmhpdcaagreat", sum := "05e2d2ec444b98417b09cc7a4651bc8146a172c0b9f763679af18875a0dab69e", checked := Tryz.checked }
namespace Rows
def none {H : Type} : Left H := { results := [], args := [] }

/-- 'mortiselaw19.TwinKnown': WHATEVER THE INPUT: true; the input reads as it did. -/
def twinKnownSpec : ChangeSpec := { name := "twinKnown", fn := fun _ => fun
  | [] => { results := [.lit (.bool true)], args := [] }
  | _ => none }
def twinKnownRow : OpenClaim := { program := "ytbgkdlhkmhpdcaagreat", sum := "05e2d2ec444b98417b09cc7a4651bc8146a172c0b9f763679af18875a0dab69e", func := "mortise/mortiselaw19.TwinKnown", spec := "twinKnown", inPlace := ["internal/bytealg.IndexByteString", "internal/bytealg.IndexString"], unfollowed := true, recurses := true, named := ["internal/bytealg.MaxLen"], apart := false }
def TwinKnownSaid : Prop := twinKnownRow.holds Tryz.pinned (OpenSpec.ofChange twinKnownSpec)

/-- ITS FALSE NEIGHBOUR: 'it returns false'. Refute it at one input. -/
def twinKnownWrong : ChangeSpec := { name := "twinKnown", fn := fun _ => fun
  | [] => { results := [.lit (.bool false)], args := [] }
  | _ => none }
def TwinKnownWrongFalsely : Prop := twinKnownRow.holds Tryz.pinned (OpenSpec.ofChange twinKnownWrong)

/-- 'mortiselaw27.DepthKnown': WHATEVER THE INPUT: true; the input reads as it did. -/
def depthKnownSpec : ChangeSpec := { name := "depthKnown", fn := fun _ => fun
  | [] => { results := [.lit (.bool true)], args := [] }
  | _ => none }
def depthKnownRow : OpenClaim := { program := "ytbgkdlhkmhpdcaagreat", sum := "05e2d2ec444b98417b09cc7a4651bc8146a172c0b9f763679af18875a0dab69e", func := "mortise/mortiselaw27.DepthKnown", spec := "depthKnown", inPlace := ["internal/bytealg.IndexByteString", "internal/bytealg.IndexString"], unfollowed := true, recurses := true, named := ["internal/bytealg.MaxLen"], apart := false }
def DepthKnownSaid : Prop := depthKnownRow.holds Tryz.pinned (OpenSpec.ofChange depthKnownSpec)

/-- ITS FALSE NEIGHBOUR: 'it returns false'. Refute it at one input. -/
def depthKnownWrong : ChangeSpec := { name := "depthKnown", fn := fun _ => fun
  | [] => { results := [.lit (.bool false)], args := [] }
  | _ => none }
def DepthKnownWrongFalsely : Prop := depthKnownRow.holds Tryz.pinned (OpenSpec.ofChange depthKnownWrong)

/-- 'mortiselaw15.LiveKnown': WHATEVER THE INPUT: true; the input reads as it did. -/
def liveKnownSpec : ChangeSpec := { name := "liveKnown", fn := fun _ => fun
  | [] => { results := [.lit (.bool true)], args := [] }
  | _ => none }
def liveKnownRow : OpenClaim := { program := "ytbgkdlhkmhpdcaagreat", sum := "05e2d2ec444b98417b09cc7a4651bc8146a172c0b9f763679af18875a0dab69e", func := "mortise/mortiselaw15.LiveKnown", spec := "liveKnown", inPlace := ["internal/bytealg.IndexByteString", "internal/bytealg.IndexString"], unfollowed := true, recurses := true, named := ["internal/bytealg.MaxLen"], apart := false }
def LiveKnownSaid : Prop := liveKnownRow.holds Tryz.pinned (OpenSpec.ofChange liveKnownSpec)

/-- ITS FALSE NEIGHBOUR: 'it returns false'. Refute it at one input. -/
def liveKnownWrong : ChangeSpec := { name := "liveKnown", fn := fun _ => fun
  | [] => { results := [.lit (.bool false)], args := [] }
  | _ => none }
def LiveKnownWrongFalsely : Prop := liveKnownRow.holds Tryz.pinned (OpenSpec.ofChange liveKnownWrong)

/-- 'mortiselaw09.ThreadKnown': WHATEVER THE INPUT: true; the input reads as it did. -/
def threadKnownSpec : ChangeSpec := { name := "threadKnown", fn := fun _ => fun
  | [] => { results := [.lit (.bool true)], args := [] }
  | _ => none }
def threadKnownRow : OpenClaim := { program := "ytbgkdlhkmhpdcaagreat", sum := "05e2d2ec444b98417b09cc7a4651bc8146a172c0b9f763679af18875a0dab69e", func := "mortise/mortiselaw09.ThreadKnown", spec := "threadKnown", inPlace := ["internal/bytealg.IndexByteString", "internal/bytealg.IndexString"], unfollowed := true, recurses := true, named := ["internal/bytealg.MaxLen"], apart := false }
def ThreadKnownSaid : Prop := threadKnownRow.holds Tryz.pinned (OpenSpec.ofChange threadKnownSpec)

/-- ITS FALSE NEIGHBOUR: 'it returns false'. Refute it at one input. -/
def threadKnownWrong : ChangeSpec := { name := "threadKnown", fn := fun _ => fun
  | [] => { results := [.lit (.bool false)], args := [] }
  | _ => none }
def ThreadKnownWrongFalsely : Prop := threadKnownRow.holds Tryz.pinned (OpenSpec.ofChange threadKnownWrong)

/-- 'mortiselaw30.InlineKnown': WHATEVER THE INPUT: true; the input reads as it did. -/
def inlineKnownSpec : ChangeSpec := { name := "inlineKnown", fn := fun _ => fun
  | [] => { results := [.lit (.bool true)], args := [] }
  | _ => none }
def inlineKnownRow : OpenClaim := { program := "ytbgkdlhkmhpdcaagreat", sum := "05e2d2ec444b98417b09cc7a4651bc8146a172c0b9f763679af18875a0dab69e", func := "mortise/mortiselaw30.InlineKnown", spec := "inlineKnown", inPlace := ["internal/bytealg.IndexByteString", "internal/bytealg.IndexString"], unfollowed := true, recurses := true, named := ["internal/bytealg.MaxLen"], apart := false }
def InlineKnownSaid : Prop := inlineKnownRow.holds Tryz.pinned (OpenSpec.ofChange inlineKnownSpec)

/-- ITS FALSE NEIGHBOUR: 'it returns false'. Refute it at one input. -/
def inlineKnownWrong : ChangeSpec := { name := "inlineKnown", fn := fun _ => fun
  | [] => { results := [.lit (.bool false)], args := [] }
  | _ => none }
def InlineKnownWrongFalsely : Prop := inlineKnownRow.holds Tryz.pinned (OpenSpec.ofChange inlineKnownWrong)

/- THE SECOND FORM. 'bulk': how many values and letters a reading holds, each counted each time it is reached (what is shared counts as often as it is met; a slice's spare places count too). A statement '..UptoSaid' is the law's where the arguments, and the package variables that the reading takes, are together of bulk at most 1048576: NARROWER than '..Said'. Prove '..Said' where nothing that the law and all that it calls make is longer than what came in: it says more and counts as full. Else prove '..UptoSaid'. A law counts once. -/
mutual
def uptoBulk {H : Type} : DataW H → Nat
  | .lit (.string bytes) => bytes.length + 1
  | .lit _ => 1
  | .nil => 1
  | .ptr d => uptoBulk d + 1
  | .slice elems spare => uptoBulkAll elems + uptoBulkAll spare + 1
  | .agg parts => uptoBulkAll parts + 1
  | .iface _ d => uptoBulk d + 1
  | .map entries => uptoBulkEntries entries + 1
  | .held _ => 1
def uptoBulkAll {H : Type} : List (DataW H) → Nat
  | [] => 0
  | d :: r => uptoBulk d + uptoBulkAll r
def uptoBulkEntries {H : Type} : List (Lit × DataW H) → Nat
  | [] => 0
  | x :: r => uptoBulkEntry x + uptoBulkEntries r
def uptoBulkEntry {H : Type} : Lit × DataW H → Nat
  | (.string bytes, d) => bytes.length + uptoBulk d + 1
  | (_, d) => uptoBulk d + 1
 end
def uptoSmall : (H : Type) → List (DataW H) → Bool := fun _ ds => decide (uptoBulkAll ds ≤ 1048576)
def OpenSpec.upto (s : _root_.Go.ChangeSpec) : _root_.Go.OpenSpec := { _root_.Go.OpenSpec.ofChange s with cond := some uptoSmall }

/-- 'mortiselaw19.TwinKnown', WHERE WHAT IT READS IS OF BULK AT MOST 1048576: true; the input reads as it did. -/
def twinKnownUptoRow : OpenClaim := { program := "ytbgkdlhkmhpdcaagreat", sum := "05e2d2ec444b98417b09cc7a4651bc8146a172c0b9f763679af18875a0dab69e", func := "mortise/mortiselaw19.TwinKnown", spec := "twinKnown", inPlace := ["internal/bytealg.IndexByteString", "internal/bytealg.IndexString"], unfollowed := true, recurses := true, named := ["internal/bytealg.MaxLen"], apart := false, narrowed := true }
def TwinKnownUptoSaid : Prop := twinKnownUptoRow.holds Tryz.pinned (OpenSpec.upto twinKnownSpec)

/-- 'mortiselaw27.DepthKnown', WHERE WHAT IT READS IS OF BULK AT MOST 1048576: true; the input reads as it did. -/
def depthKnownUptoRow : OpenClaim := { program := "ytbgkdlhkmhpdcaagreat", sum := "05e2d2ec444b98417b09cc7a4651bc8146a172c0b9f763679af18875a0dab69e", func := "mortise/mortiselaw27.DepthKnown", spec := "depthKnown", inPlace := ["internal/bytealg.IndexByteString", "internal/bytealg.IndexString"], unfollowed := true, recurses := true, named := ["internal/bytealg.MaxLen"], apart := false, narrowed := true }
def DepthKnownUptoSaid : Prop := depthKnownUptoRow.holds Tryz.pinned (OpenSpec.upto depthKnownSpec)

/-- 'mortiselaw15.LiveKnown', WHERE WHAT IT READS IS OF BULK AT MOST 1048576: true; the input reads as it did. -/
def liveKnownUptoRow : OpenClaim := { program := "ytbgkdlhkmhpdcaagreat", sum := "05e2d2ec444b98417b09cc7a4651bc8146a172c0b9f763679af18875a0dab69e", func := "mortise/mortiselaw15.LiveKnown", spec := "liveKnown", inPlace := ["internal/bytealg.IndexByteString", "internal/bytealg.IndexString"], unfollowed := true, recurses := true, named := ["internal/bytealg.MaxLen"], apart := false, narrowed := true }
def LiveKnownUptoSaid : Prop := liveKnownUptoRow.holds Tryz.pinned (OpenSpec.upto liveKnownSpec)

/-- 'mortiselaw09.ThreadKnown', WHERE WHAT IT READS IS OF BULK AT MOST 1048576: true; the input reads as it did. -/
def threadKnownUptoRow : OpenClaim := { program := "ytbgkdlhkmhpdcaagreat", sum := "05e2d2ec444b98417b09cc7a4651bc8146a172c0b9f763679af18875a0dab69e", func := "mortise/mortiselaw09.ThreadKnown", spec := "threadKnown", inPlace := ["internal/bytealg.IndexByteString", "internal/bytealg.IndexString"], unfollowed := true, recurses := true, named := ["internal/bytealg.MaxLen"], apart := false, narrowed := true }
def ThreadKnownUptoSaid : Prop := threadKnownUptoRow.holds Tryz.pinned (OpenSpec.upto threadKnownSpec)

/-- 'mortiselaw30.InlineKnown', WHERE WHAT IT READS IS OF BULK AT MOST 1048576: true; the input reads as it did. -/
def inlineKnownUptoRow : OpenClaim := { program := "ytbgkdlhkmhpdcaagreat", sum := "05e2d2ec444b98417b09cc7a4651bc8146a172c0b9f763679af18875a0dab69e", func := "mortise/mortiselaw30.InlineKnown", spec := "inlineKnown", inPlace := ["internal/bytealg.IndexByteString", "internal/bytealg.IndexString"], unfollowed := true, recurses := true, named := ["internal/bytealg.MaxLen"], apart := false, narrowed := true }
def InlineKnownUptoSaid : Prop := inlineKnownUptoRow.holds Tryz.pinned (OpenSpec.upto inlineKnownSpec)

end Rows
end Go.Proofs.YtbgkdlhkmhpdcaaGreat
