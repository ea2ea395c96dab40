/-
  No cell of these rows narrows 'for every input' (looked for: loops, veiled, ifaces, maps, wideKeys, modest, calm, conditions, laid).
  DERIVED. THE GIVEN ROWS OF THIS SEAT. 8 by the template 'for every input the law returns true; each argument reads behind the call as it read before'; 0 by the template 'total and deterministic' (their statements: YtghippahfkjhhaaTotals.lean).
  GIVEN WITH THE SEED: the statements are not yours to turn. If you find one false, say at which input.
  Laid BY PROGRAM, IN A SANDBOX (cutbox-rows.mjs): the forced cells as the released guide's own fill.sh prints them over the translation 8be8e196c8f9fd23… (all of the seat's roots in one cut). By AI agents, Wed Nov 11 2026. No macro, syntax, notation, axiom, sorry.
-/
import Derived.Test.YtghippahfkjhhaaChecked
import GoSem.Claim
import GoSem.ClaimJoined
import GoSem.ClaimMapViews
import Derived.JoinedTies
import Derived.KernelRfl
namespace Go.Proofs.Ytghippahfkjhhaa
/- THE CELL 'sum', in the pinned program and in every row, IS THE sha256 OF THE DUMP (.gsa) THAT YtghippahfkjhhaaProg.lean LOADS. Nothing in Lean hashes anything: it is a label: what it is worth is what the hold of that sum in a sandbox is worth. -/
noncomputable def Try.pinned : Pinned := { name := "ytghippahfkjhhaa", sum := "8be8e196c8f9fd23b049c3f7a7fcf9c9619340e9a8c849267f0ca650edc88c0d", checked := Try.checked }
namespace Rows
def none {H : Type} : Left H := { results := [], args := [] }

/-- 'laws.FnExactTriesFor': WHATEVER THE INPUT: true; the input reads as it did. -/
def fnExactTriesForSpec : ChangeSpec := { name := "fnExactTriesFor", fn := fun _ => fun
  | [d1, d2] => { results := [.lit (.bool true)], args := [d1, d2] }
  | _ => none }
def fnExactTriesForRow : OpenClaim := { program := "ytghippahfkjhhaa", sum := "8be8e196c8f9fd23b049c3f7a7fcf9c9619340e9a8c849267f0ca650edc88c0d", func := "loop.example/g00958/laws.FnExactTriesFor", spec := "fnExactTriesFor", apart := false }
def FnExactTriesForSaid : Prop := fnExactTriesForRow.holds Try.pinned (OpenSpec.ofChange fnExactTriesForSpec)

/-- ITS FALSE NEIGHBOUR: 'it returns false'. Refute it at one input. -/
def fnExactTriesForWrong : ChangeSpec := { name := "fnExactTriesFor", fn := fun _ => fun
  | [d1, d2] => { results := [.lit (.bool false)], args := [d1, d2] }
  | _ => none }
def FnExactTriesForWrongFalsely : Prop := fnExactTriesForRow.holds Try.pinned (OpenSpec.ofChange fnExactTriesForWrong)

/-- 'laws.FnExactUnitRow': WHATEVER THE INPUT: true; the input reads as it did. -/
def fnExactUnitRowSpec : ChangeSpec := { name := "fnExactUnitRow", fn := fun _ => fun
  | [d1, d2] => { results := [.lit (.bool true)], args := [d1, d2] }
  | _ => none }
def fnExactUnitRowRow : OpenClaim := { program := "ytghippahfkjhhaa", sum := "8be8e196c8f9fd23b049c3f7a7fcf9c9619340e9a8c849267f0ca650edc88c0d", func := "loop.example/g00958/laws.FnExactUnitRow", spec := "fnExactUnitRow", apart := false }
def FnExactUnitRowSaid : Prop := fnExactUnitRowRow.holds Try.pinned (OpenSpec.ofChange fnExactUnitRowSpec)

/-- ITS FALSE NEIGHBOUR: 'it returns false'. Refute it at one input. -/
def fnExactUnitRowWrong : ChangeSpec := { name := "fnExactUnitRow", fn := fun _ => fun
  | [d1, d2] => { results := [.lit (.bool false)], args := [d1, d2] }
  | _ => none }
def FnExactUnitRowWrongFalsely : Prop := fnExactUnitRowRow.holds Try.pinned (OpenSpec.ofChange fnExactUnitRowWrong)

/-- 'laws.FnExactOneWay': WHATEVER THE INPUT: true; the input reads as it did. -/
def fnExactOneWaySpec : ChangeSpec := { name := "fnExactOneWay", fn := fun _ => fun
  | [d1, d2, d3] => { results := [.lit (.bool true)], args := [d1, d2, d3] }
  | _ => none }
def fnExactOneWayRow : OpenClaim := { program := "ytghippahfkjhhaa", sum := "8be8e196c8f9fd23b049c3f7a7fcf9c9619340e9a8c849267f0ca650edc88c0d", func := "loop.example/g00958/laws.FnExactOneWay", spec := "fnExactOneWay", apart := false }
def FnExactOneWaySaid : Prop := fnExactOneWayRow.holds Try.pinned (OpenSpec.ofChange fnExactOneWaySpec)

/-- ITS FALSE NEIGHBOUR: 'it returns false'. Refute it at one input. -/
def fnExactOneWayWrong : ChangeSpec := { name := "fnExactOneWay", fn := fun _ => fun
  | [d1, d2, d3] => { results := [.lit (.bool false)], args := [d1, d2, d3] }
  | _ => none }
def FnExactOneWayWrongFalsely : Prop := fnExactOneWayRow.holds Try.pinned (OpenSpec.ofChange fnExactOneWayWrong)

/-- 'laws.FnExactLinkOf': WHATEVER THE INPUT: true; the input reads as it did. -/
def fnExactLinkOfSpec : ChangeSpec := { name := "fnExactLinkOf", fn := fun _ => fun
  | [d1, d2, d3] => { results := [.lit (.bool true)], args := [d1, d2, d3] }
  | _ => none }
def fnExactLinkOfRow : OpenClaim := { program := "ytghippahfkjhhaa", sum := "8be8e196c8f9fd23b049c3f7a7fcf9c9619340e9a8c849267f0ca650edc88c0d", func := "loop.example/g00958/laws.FnExactLinkOf", spec := "fnExactLinkOf", unfollowed := true, recurses := true, apart := false }
def FnExactLinkOfSaid : Prop := fnExactLinkOfRow.holds Try.pinned (OpenSpec.ofChange fnExactLinkOfSpec)

/-- ITS FALSE NEIGHBOUR: 'it returns false'. Refute it at one input. -/
def fnExactLinkOfWrong : ChangeSpec := { name := "fnExactLinkOf", fn := fun _ => fun
  | [d1, d2, d3] => { results := [.lit (.bool false)], args := [d1, d2, d3] }
  | _ => none }
def FnExactLinkOfWrongFalsely : Prop := fnExactLinkOfRow.holds Try.pinned (OpenSpec.ofChange fnExactLinkOfWrong)

/-- 'laws.FnExactAreReplies': WHATEVER THE INPUT: true; the input reads as it did. -/
def fnExactAreRepliesSpec : ChangeSpec := { name := "fnExactAreReplies", fn := fun _ => fun
  | [d] => { results := [.lit (.bool true)], args := [d] }
  | _ => none }
def fnExactAreRepliesRow : OpenClaim := { program := "ytghippahfkjhhaa", sum := "8be8e196c8f9fd23b049c3f7a7fcf9c9619340e9a8c849267f0ca650edc88c0d", func := "loop.example/g00958/laws.FnExactAreReplies", spec := "fnExactAreReplies", unfollowed := true, recurses := true, apart := false }
def FnExactAreRepliesSaid : Prop := fnExactAreRepliesRow.holds Try.pinned (OpenSpec.ofChange fnExactAreRepliesSpec)

/-- ITS FALSE NEIGHBOUR: 'it returns false'. Refute it at one input. -/
def fnExactAreRepliesWrong : ChangeSpec := { name := "fnExactAreReplies", fn := fun _ => fun
  | [d] => { results := [.lit (.bool false)], args := [d] }
  | _ => none }
def FnExactAreRepliesWrongFalsely : Prop := fnExactAreRepliesRow.holds Try.pinned (OpenSpec.ofChange fnExactAreRepliesWrong)

/-- 'laws.FnExactHasCircle': WHATEVER THE INPUT: true; the input reads as it did. -/
def fnExactHasCircleSpec : ChangeSpec := { name := "fnExactHasCircle", fn := fun _ => fun
  | [d] => { results := [.lit (.bool true)], args := [d] }
  | _ => none }
def fnExactHasCircleRow : OpenClaim := { program := "ytghippahfkjhhaa", sum := "8be8e196c8f9fd23b049c3f7a7fcf9c9619340e9a8c849267f0ca650edc88c0d", func := "loop.example/g00958/laws.FnExactHasCircle", spec := "fnExactHasCircle", unfollowed := true, recurses := true, apart := false }
def FnExactHasCircleSaid : Prop := fnExactHasCircleRow.holds Try.pinned (OpenSpec.ofChange fnExactHasCircleSpec)

/-- ITS FALSE NEIGHBOUR: 'it returns false'. Refute it at one input. -/
def fnExactHasCircleWrong : ChangeSpec := { name := "fnExactHasCircle", fn := fun _ => fun
  | [d] => { results := [.lit (.bool false)], args := [d] }
  | _ => none }
def FnExactHasCircleWrongFalsely : Prop := fnExactHasCircleRow.holds Try.pinned (OpenSpec.ofChange fnExactHasCircleWrong)

/-- 'laws.FnExactGapsIn': WHATEVER THE INPUT: true; the input reads as it did. -/
def fnExactGapsInSpec : ChangeSpec := { name := "fnExactGapsIn", fn := fun _ => fun
  | [d] => { results := [.lit (.bool true)], args := [d] }
  | _ => none }
def fnExactGapsInRow : OpenClaim := { program := "ytghippahfkjhhaa", sum := "8be8e196c8f9fd23b049c3f7a7fcf9c9619340e9a8c849267f0ca650edc88c0d", func := "loop.example/g00958/laws.FnExactGapsIn", spec := "fnExactGapsIn", apart := false }
def FnExactGapsInSaid : Prop := fnExactGapsInRow.holds Try.pinned (OpenSpec.ofChange fnExactGapsInSpec)

/-- ITS FALSE NEIGHBOUR: 'it returns false'. Refute it at one input. -/
def fnExactGapsInWrong : ChangeSpec := { name := "fnExactGapsIn", fn := fun _ => fun
  | [d] => { results := [.lit (.bool false)], args := [d] }
  | _ => none }
def FnExactGapsInWrongFalsely : Prop := fnExactGapsInRow.holds Try.pinned (OpenSpec.ofChange fnExactGapsInWrong)

/-- 'laws.FnExactAloneOn': WHATEVER THE INPUT: true; the input reads as it did. -/
def fnExactAloneOnSpec : ChangeSpec := { name := "fnExactAloneOn", fn := fun _ => fun
  | [d1, d2] => { results := [.lit (.bool true)], args := [d1, d2] }
  | _ => none }
def fnExactAloneOnRow : OpenClaim := { program := "ytghippahfkjhhaa", sum := "8be8e196c8f9fd23b049c3f7a7fcf9c9619340e9a8c849267f0ca650edc88c0d", func := "loop.example/g00958/laws.FnExactAloneOn", spec := "fnExactAloneOn", unfollowed := true, recurses := true, apart := false }
def FnExactAloneOnSaid : Prop := fnExactAloneOnRow.holds Try.pinned (OpenSpec.ofChange fnExactAloneOnSpec)

/-- ITS FALSE NEIGHBOUR: 'it returns false'. Refute it at one input. -/
def fnExactAloneOnWrong : ChangeSpec := { name := "fnExactAloneOn", fn := fun _ => fun
  | [d1, d2] => { results := [.lit (.bool false)], args := [d1, d2] }
  | _ => none }
def FnExactAloneOnWrongFalsely : Prop := fnExactAloneOnRow.holds Try.pinned (OpenSpec.ofChange fnExactAloneOnWrong)

/- THE SECOND FORM. 'bulk': how many values and letters a reading holds, each counted each time it is reached (what is shared counts as often as it is met; a slice's spare places count too). A statement '..UptoSaid' is the law's where the arguments, and the package variables that the reading takes, are together of bulk at most 1048576: NARROWER than '..Said'. Prove '..Said' where nothing that the law and all that it calls make is longer than what came in: it says more and counts as full. Else prove '..UptoSaid'. A law counts once. -/
mutual
def uptoBulk {H : Type} : DataW H → Nat
  | .lit (.string bytes) => bytes.length + 1
  | .lit _ => 1
  | .nil => 1
  | .ptr d => uptoBulk d + 1
  | .slice elems spare => uptoBulkAll elems + uptoBulkAll spare + 1
  | .agg parts => uptoBulkAll parts + 1
  | .iface _ d => uptoBulk d + 1
  | .map entries => uptoBulkEntries entries + 1
  | .held _ => 1
def uptoBulkAll {H : Type} : List (DataW H) → Nat
  | [] => 0
  | d :: r => uptoBulk d + uptoBulkAll r
def uptoBulkEntries {H : Type} : List (Lit × DataW H) → Nat
  | [] => 0
  | x :: r => uptoBulkEntry x + uptoBulkEntries r
def uptoBulkEntry {H : Type} : Lit × DataW H → Nat
  | (.string bytes, d) => bytes.length + uptoBulk d + 1
  | (_, d) => uptoBulk d + 1
 end
def uptoSmall : (H : Type) → List (DataW H) → Bool := fun _ ds => decide (uptoBulkAll ds ≤ 1048576)
def OpenSpec.upto (s : _root_.Go.ChangeSpec) : _root_.Go.OpenSpec := { _root_.Go.OpenSpec.ofChange s with cond := some uptoSmall }

/-- 'laws.FnExactTriesFor', WHERE WHAT IT READS IS OF BULK AT MOST 1048576: true; the input reads as it did. -/
def fnExactTriesForUptoRow : OpenClaim := { program := "ytghippahfkjhhaa", sum := "8be8e196c8f9fd23b049c3f7a7fcf9c9619340e9a8c849267f0ca650edc88c0d", func := "loop.example/g00958/laws.FnExactTriesFor", spec := "fnExactTriesFor", apart := false, narrowed := true }
def FnExactTriesForUptoSaid : Prop := fnExactTriesForUptoRow.holds Try.pinned (OpenSpec.upto fnExactTriesForSpec)

/-- 'laws.FnExactUnitRow', WHERE WHAT IT READS IS OF BULK AT MOST 1048576: true; the input reads as it did. -/
def fnExactUnitRowUptoRow : OpenClaim := { program := "ytghippahfkjhhaa", sum := "8be8e196c8f9fd23b049c3f7a7fcf9c9619340e9a8c849267f0ca650edc88c0d", func := "loop.example/g00958/laws.FnExactUnitRow", spec := "fnExactUnitRow", apart := false, narrowed := true }
def FnExactUnitRowUptoSaid : Prop := fnExactUnitRowUptoRow.holds Try.pinned (OpenSpec.upto fnExactUnitRowSpec)

/-- 'laws.FnExactOneWay', WHERE WHAT IT READS IS OF BULK AT MOST 1048576: true; the input reads as it did. -/
def fnExactOneWayUptoRow : OpenClaim := { program := "ytghippahfkjhhaa", sum := "8be8e196c8f9fd23b049c3f7a7fcf9c9619340e9a8c849267f0ca650edc88c0d", func := "loop.example/g00958/laws.FnExactOneWay", spec := "fnExactOneWay", apart := false, narrowed := true }
def FnExactOneWayUptoSaid : Prop := fnExactOneWayUptoRow.holds Try.pinned (OpenSpec.upto fnExactOneWaySpec)

/-- 'laws.FnExactLinkOf', WHERE WHAT IT READS IS OF BULK AT MOST 1048576: true; the input reads as it did. -/
def fnExactLinkOfUptoRow : OpenClaim := { program := "ytghippahfkjhhaa", sum := "8be8e196c8f9fd23b049c3f7a7fcf9c9619340e9a8c849267f0ca650edc88c0d", func := "loop.example/g00958/laws.FnExactLinkOf", spec := "fnExactLinkOf", unfollowed := true, recurses := true, apart := false, narrowed := true }
def FnExactLinkOfUptoSaid : Prop := fnExactLinkOfUptoRow.holds Try.pinned (OpenSpec.upto fnExactLinkOfSpec)

/-- 'laws.FnExactAreReplies', WHERE WHAT IT READS IS OF BULK AT MOST 1048576: true; the input reads as it did. -/
def fnExactAreRepliesUptoRow : OpenClaim := { program := "ytghippahfkjhhaa", sum := "8be8e196c8f9fd23b049c3f7a7fcf9c9619340e9a8c849267f0ca650edc88c0d", func := "loop.example/g00958/laws.FnExactAreReplies", spec := "fnExactAreReplies", unfollowed := true, recurses := true, apart := false, narrowed := true }
def FnExactAreRepliesUptoSaid : Prop := fnExactAreRepliesUptoRow.holds Try.pinned (OpenSpec.upto fnExactAreRepliesSpec)

/-- 'laws.FnExactHasCircle', WHERE WHAT IT READS IS OF BULK AT MOST 1048576: true; the input reads as it did. -/
def fnExactHasCircleUptoRow : OpenClaim := { program := "ytghippahfkjhhaa", sum := "8be8e196c8f9fd23b049c3f7a7fcf9c9619340e9a8c849267f0ca650edc88c0d", func := "loop.example/g00958/laws.FnExactHasCircle", spec := "fnExactHasCircle", unfollowed := true, recurses := true, apart := false, narrowed := true }
def FnExactHasCircleUptoSaid : Prop := fnExactHasCircleUptoRow.holds Try.pinned (OpenSpec.upto fnExactHasCircleSpec)

/-- 'laws.FnExactGapsIn', WHERE WHAT IT READS IS OF BULK AT MOST 1048576: true; the input reads as it did. -/
def fnExactGapsInUptoRow : OpenClaim := { program := "ytghippahfkjhhaa", sum := "8be8e196c8f9fd23b049c3f7a7fcf9c9619340e9a8c849267f0ca650edc88c0d", func := "loop.example/g00958/laws.FnExactGapsIn", spec := "fnExactGapsIn", apart := false, narrowed := true }
def FnExactGapsInUptoSaid : Prop := fnExactGapsInUptoRow.holds Try.pinned (OpenSpec.upto fnExactGapsInSpec)

/-- 'laws.FnExactAloneOn', WHERE WHAT IT READS IS OF BULK AT MOST 1048576: true; the input reads as it did. -/
def fnExactAloneOnUptoRow : OpenClaim := { program := "ytghippahfkjhhaa", sum := "8be8e196c8f9fd23b049c3f7a7fcf9c9619340e9a8c849267f0ca650edc88c0d", func := "loop.example/g00958/laws.FnExactAloneOn", spec := "fnExactAloneOn", unfollowed := true, recurses := true, apart := false, narrowed := true }
def FnExactAloneOnUptoSaid : Prop := fnExactAloneOnUptoRow.holds Try.pinned (OpenSpec.upto fnExactAloneOnSpec)

end Rows
end Go.Proofs.Ytghippahfkjhhaa
