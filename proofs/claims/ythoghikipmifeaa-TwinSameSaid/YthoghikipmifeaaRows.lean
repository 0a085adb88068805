/-
  No cell of these rows narrows 'for every input' (looked for: loops, veiled, ifaces, maps, wideKeys, modest, calm, conditions, laid).
  DERIVED. THE GIVEN ROWS OF THIS SEAT. 3 by the template 'for every input the law returns true; each argument reads behind the call as it read before'; 0 by the template 'total and deterministic' (their statements: YthoghikipmifeaaTotals.lean).
  GIVEN WITH THE SEED: the statements are not yours to turn. If you find one false, say at which input.
  Laid BY PROGRAM, IN A SANDBOX (cutbox-rows.mjs): the forced cells as the released guide's own fill.sh prints them over the translation 92b58f1693071cab… (all of the seat's roots in one cut). By AI agents, Wed Nov 11 2026. No macro, syntax, notation, axiom, sorry.
-/
import Derived.Test.YthoghikipmifeaaChecked
import GoSem.Claim
import GoSem.ClaimJoined
import GoSem.ClaimMapViews
import Derived.JoinedTies
import Derived.KernelRfl
namespace Go.Proofs.Ythoghikipmifeaa
/- THE CELL 'sum', in the pinned program and in every row, IS THE sha256 OF THE DUMP (.gsa) THAT YthoghikipmifeaaProg.lean LOADS. Nothing in Lean hashes anything: it is a label: what it is worth is what the hold of that sum in a sandbox is worth. -/
noncomputable def Try.pinned : Pinned := { name := "ythoghikipmifeaa", sum := "92b58f1693071cab28fb5c3f8d2001dfa0aa2b26a0c45aea015df70bff515825", checked := Try.checked }
namespace Rows
def none {H : Type} : Left H := { results := [], args := [] }

/-- 'mortiselaw06.IrMore': WHATEVER THE INPUT: true; the input reads as it did. -/
def irMoreSpec : ChangeSpec := { name := "irMore", fn := fun _ => fun
  | [d] => { results := [.lit (.bool true)], args := [d] }
  | _ => none }
def irMoreRow : OpenClaim := { program := "ythoghikipmifeaa", sum := "92b58f1693071cab28fb5c3f8d2001dfa0aa2b26a0c45aea015df70bff515825", func := "mortise/mortiselaw06.IrMore", spec := "irMore", inPlace := ["internal/bytealg.IndexByteString", "internal/bytealg.IndexString"], unfollowed := true, recurses := true, named := ["internal/bytealg.MaxLen"], apart := false }
def IrMoreSaid : Prop := irMoreRow.holds Try.pinned (OpenSpec.ofChange irMoreSpec)

/-- ITS FALSE NEIGHBOUR: 'it returns false'. Refute it at one input. -/
def irMoreWrong : ChangeSpec := { name := "irMore", fn := fun _ => fun
  | [d] => { results := [.lit (.bool false)], args := [d] }
  | _ => none }
def IrMoreWrongFalsely : Prop := irMoreRow.holds Try.pinned (OpenSpec.ofChange irMoreWrong)

/-- 'mortiselaw06.IrInputs': WHATEVER THE INPUT: true; the input reads as it did. -/
def irInputsSpec : ChangeSpec := { name := "irInputs", fn := fun _ => fun
  | [d] => { results := [.lit (.bool true)], args := [d] }
  | _ => none }
def irInputsRow : OpenClaim := { program := "ythoghikipmifeaa", sum := "92b58f1693071cab28fb5c3f8d2001dfa0aa2b26a0c45aea015df70bff515825", func := "mortise/mortiselaw06.IrInputs", spec := "irInputs", inPlace := ["internal/bytealg.IndexByteString", "internal/bytealg.IndexString"], unfollowed := true, recurses := true, named := ["internal/bytealg.MaxLen"], apart := false }
def IrInputsSaid : Prop := irInputsRow.holds Try.pinned (OpenSpec.ofChange irInputsSpec)

/-- ITS FALSE NEIGHBOUR: 'it returns false'. Refute it at one input. -/
def irInputsWrong : ChangeSpec := { name := "irInputs", fn := fun _ => fun
  | [d] => { results := [.lit (.bool false)], args := [d] }
  | _ => none }
def IrInputsWrongFalsely : Prop := irInputsRow.holds Try.pinned (OpenSpec.ofChange irInputsWrong)

/-- 'mortiselaw19.TwinSame': WHATEVER THE INPUT: true; the input reads as it did. -/
def twinSameSpec : ChangeSpec := { name := "twinSame", fn := fun _ => fun
  | [d1, d2, d3] => { results := [.lit (.bool true)], args := [d1, d2, d3] }
  | _ => none }
def twinSameRow : OpenClaim := { program := "ythoghikipmifeaa", sum := "92b58f1693071cab28fb5c3f8d2001dfa0aa2b26a0c45aea015df70bff515825", func := "mortise/mortiselaw19.TwinSame", spec := "twinSame", inPlace := ["internal/bytealg.IndexByteString", "internal/bytealg.IndexString"], unfollowed := true, recurses := true, named := ["internal/bytealg.MaxLen"], apart := false }
def TwinSameSaid : Prop := twinSameRow.holds Try.pinned (OpenSpec.ofChange twinSameSpec)

/-- ITS FALSE NEIGHBOUR: 'it returns false'. Refute it at one input. -/
def twinSameWrong : ChangeSpec := { name := "twinSame", fn := fun _ => fun
  | [d1, d2, d3] => { results := [.lit (.bool false)], args := [d1, d2, d3] }
  | _ => none }
def TwinSameWrongFalsely : Prop := twinSameRow.holds Try.pinned (OpenSpec.ofChange twinSameWrong)

/- THE SECOND FORM. 'bulk': how many values and letters a reading holds, each counted each time it is reached (what is shared counts as often as it is met; a slice's spare places count too). A statement '..UptoSaid' is the law's where the arguments, and the package variables that the reading takes, are together of bulk at most 1048576: NARROWER than '..Said'. Prove '..Said' where nothing that the law and all that it calls make is longer than what came in: it says more and counts as full. Else prove '..UptoSaid'. A law counts once. -/
mutual
def uptoBulk {H : Type} : DataW H → Nat
  | .lit (.string bytes) => bytes.length + 1
  | .lit _ => 1
  | .nil => 1
  | .ptr d => uptoBulk d + 1
  | .slice elems spare => uptoBulkAll elems + uptoBulkAll spare + 1
  | .agg parts => uptoBulkAll parts + 1
  | .iface _ d => uptoBulk d + 1
  | .map entries => uptoBulkEntries entries + 1
  | .held _ => 1
def uptoBulkAll {H : Type} : List (DataW H) → Nat
  | [] => 0
  | d :: r => uptoBulk d + uptoBulkAll r
def uptoBulkEntries {H : Type} : List (Lit × DataW H) → Nat
  | [] => 0
  | x :: r => uptoBulkEntry x + uptoBulkEntries r
def uptoBulkEntry {H : Type} : Lit × DataW H → Nat
  | (.string bytes, d) => bytes.length + uptoBulk d + 1
  | (_, d) => uptoBulk d + 1
 end
def uptoSmall : (H : Type) → List (DataW H) → Bool := fun _ ds => decide (uptoBulkAll ds ≤ 1048576)
def OpenSpec.upto (s : _root_.Go.ChangeSpec) : _root_.Go.OpenSpec := { _root_.Go.OpenSpec.ofChange s with cond := some uptoSmall }

/-- 'mortiselaw06.IrMore', WHERE WHAT IT READS IS OF BULK AT MOST 1048576: true; the input reads as it did. -/
def irMoreUptoRow : OpenClaim := { program := "ythoghikipmifeaa", sum := "92b58f1693071cab28fb5c3f8d2001dfa0aa2b26a0c45aea015df70bff515825", func := "mortise/mortiselaw06.IrMore", spec := "irMore", inPlace := ["internal/bytealg.IndexByteString", "internal/bytealg.IndexString"], unfollowed := true, recurses := true, named := ["internal/bytealg.MaxLen"], apart := false, narrowed := true }
def IrMoreUptoSaid : Prop := irMoreUptoRow.holds Try.pinned (OpenSpec.upto irMoreSpec)

/-- 'mortiselaw06.IrInputs', WHERE WHAT IT READS IS OF BULK AT MOST 1048576: true; the input reads as it did. -/
def irInputsUptoRow : OpenClaim := { program := "ythoghikipmifeaa", sum := "92b58f1693071cab28fb5c3f8d2001dfa0aa2b26a0c45aea015df70bff515825", func := "mortise/mortiselaw06.IrInputs", spec := "irInputs", inPlace := ["internal/bytealg.IndexByteString", "internal/bytealg.IndexString"], unfollowed := true, recurses := true, named := ["internal/bytealg.MaxLen"], apart := false, narrowed := true }
def IrInputsUptoSaid : Prop := irInputsUptoRow.holds Try.pinned (OpenSpec.upto irInputsSpec)

/-- 'mortiselaw19.TwinSame', WHERE WHAT IT READS IS OF BULK AT MOST 1048576: true; the input reads as it did. -/
def twinSameUptoRow : OpenClaim := { program := "ythoghikipmifeaa", sum := "92b58f1693071cab28fb5c3f8d2001dfa0aa2b26a0c45aea015df70bff515825", func := "mortise/mortiselaw19.TwinSame", spec := "twinSame", inPlace := ["internal/bytealg.IndexByteString", "internal/bytealg.IndexString"], unfollowed := true, recurses := true, named := ["internal/bytealg.MaxLen"], apart := false, narrowed := true }
def TwinSameUptoSaid : Prop := twinSameUptoRow.holds Try.pinned (OpenSpec.upto twinSameSpec)

end Rows
end Go.Proofs.Ythoghikipmifeaa
