/-
  No cell of these rows narrows 'for every input' (looked for: loops, veiled, ifaces, maps, wideKeys, modest, calm, conditions, laid).
  DERIVED. THE GIVEN ROWS OF THIS SEAT. 6 by the template 'for every input the law returns true; each argument reads behind the call as it read before'; 0 by the template 'total and deterministic' (their statements: YtjfnnnhedeebeaaTotals.lean).
  GIVEN WITH THE SEED: the statements are not yours to turn. If you find one false, say at which input.
  Laid BY PROGRAM, IN A SANDBOX (cutbox-rows.mjs): the forced cells as the released guide's own fill.sh prints them over the translation 49e25de3784df7ac… (all of the seat's roots in one cut). By AI agents, Wed Nov 11 2026. No macro, syntax, notation, axiom, sorry.
-/
import Derived.Test.YtjfnnnhedeebeaaChecked
import GoSem.Claim
import GoSem.ClaimJoined
import GoSem.ClaimMapViews
import Derived.JoinedTies
import Derived.KernelRfl
namespace Go.Proofs.Ytjfnnnhedeebeaa
/- THE CELL 'sum', in the pinned program and in every row, IS THE sha256 OF THE DUMP (.gsa) THAT YtjfnnnhedeebeaaProg.lean LOADS. Nothing in Lean hashes anything: it is a label: what it is worth is what the hold of that sum in a sandbox is worth. -/
noncomputable def Try.pinned : Pinned := { name := "ytjfnnnhedeebeaa", sum := "49e25de3784df7ac070e4c4a3547155e5f773e43a10e07ffa57f4028a9c5cf2c", checked := Try.checked }
namespace Rows
def none {H : Type} : Left H := { results := [], args := [] }

/-- 'laws.FnExactIsInterval': WHATEVER THE INPUT: true; the input reads as it did. -/
def fnExactIsIntervalSpec : ChangeSpec := { name := "fnExactIsInterval", fn := fun _ => fun
  | [d] => { results := [.lit (.bool true)], args := [d] }
  | _ => none }
def fnExactIsIntervalRow : OpenClaim := { program := "ytjfnnnhedeebeaa", sum := "49e25de3784df7ac070e4c4a3547155e5f773e43a10e07ffa57f4028a9c5cf2c", func := "loop.example/g00958/laws.FnExactIsInterval", spec := "fnExactIsInterval", apart := false }
def FnExactIsIntervalSaid : Prop := fnExactIsIntervalRow.holds Try.pinned (OpenSpec.ofChange fnExactIsIntervalSpec)

/-- ITS FALSE NEIGHBOUR: 'it returns false'. Refute it at one input. -/
def fnExactIsIntervalWrong : ChangeSpec := { name := "fnExactIsInterval", fn := fun _ => fun
  | [d] => { results := [.lit (.bool false)], args := [d] }
  | _ => none }
def FnExactIsIntervalWrongFalsely : Prop := fnExactIsIntervalRow.holds Try.pinned (OpenSpec.ofChange fnExactIsIntervalWrong)

/-- 'laws.FnExactWidthOf': WHATEVER THE INPUT: true; the input reads as it did. -/
def fnExactWidthOfSpec : ChangeSpec := { name := "fnExactWidthOf", fn := fun _ => fun
  | [d] => { results := [.lit (.bool true)], args := [d] }
  | _ => none }
def fnExactWidthOfRow : OpenClaim := { program := "ytjfnnnhedeebeaa", sum := "49e25de3784df7ac070e4c4a3547155e5f773e43a10e07ffa57f4028a9c5cf2c", func := "loop.example/g00958/laws.FnExactWidthOf", spec := "fnExactWidthOf", apart := false }
def FnExactWidthOfSaid : Prop := fnExactWidthOfRow.holds Try.pinned (OpenSpec.ofChange fnExactWidthOfSpec)

/-- ITS FALSE NEIGHBOUR: 'it returns false'. Refute it at one input. -/
def fnExactWidthOfWrong : ChangeSpec := { name := "fnExactWidthOf", fn := fun _ => fun
  | [d] => { results := [.lit (.bool false)], args := [d] }
  | _ => none }
def FnExactWidthOfWrongFalsely : Prop := fnExactWidthOfRow.holds Try.pinned (OpenSpec.ofChange fnExactWidthOfWrong)

/-- 'laws.FnExactMissBound': WHATEVER THE INPUT: true; the input reads as it did. -/
def fnExactMissBoundSpec : ChangeSpec := { name := "fnExactMissBound", fn := fun _ => fun
  | [d1, d2] => { results := [.lit (.bool true)], args := [d1, d2] }
  | _ => none }
def fnExactMissBoundRow : OpenClaim := { program := "ytjfnnnhedeebeaa", sum := "49e25de3784df7ac070e4c4a3547155e5f773e43a10e07ffa57f4028a9c5cf2c", func := "loop.example/g00958/laws.FnExactMissBound", spec := "fnExactMissBound", apart := false }
def FnExactMissBoundSaid : Prop := fnExactMissBoundRow.holds Try.pinned (OpenSpec.ofChange fnExactMissBoundSpec)

/-- ITS FALSE NEIGHBOUR: 'it returns false'. Refute it at one input. -/
def fnExactMissBoundWrong : ChangeSpec := { name := "fnExactMissBound", fn := fun _ => fun
  | [d1, d2] => { results := [.lit (.bool false)], args := [d1, d2] }
  | _ => none }
def FnExactMissBoundWrongFalsely : Prop := fnExactMissBoundRow.holds Try.pinned (OpenSpec.ofChange fnExactMissBoundWrong)

/-- 'laws.FnExactOffsetOf': WHATEVER THE INPUT: true; the input reads as it did. -/
def fnExactOffsetOfSpec : ChangeSpec := { name := "fnExactOffsetOf", fn := fun _ => fun
  | [d1, d2, d3, d4] => { results := [.lit (.bool true)], args := [d1, d2, d3, d4] }
  | _ => none }
def fnExactOffsetOfRow : OpenClaim := { program := "ytjfnnnhedeebeaa", sum := "49e25de3784df7ac070e4c4a3547155e5f773e43a10e07ffa57f4028a9c5cf2c", func := "loop.example/g00958/laws.FnExactOffsetOf", spec := "fnExactOffsetOf", apart := false }
def FnExactOffsetOfSaid : Prop := fnExactOffsetOfRow.holds Try.pinned (OpenSpec.ofChange fnExactOffsetOfSpec)

/-- ITS FALSE NEIGHBOUR: 'it returns false'. Refute it at one input. -/
def fnExactOffsetOfWrong : ChangeSpec := { name := "fnExactOffsetOf", fn := fun _ => fun
  | [d1, d2, d3, d4] => { results := [.lit (.bool false)], args := [d1, d2, d3, d4] }
  | _ => none }
def FnExactOffsetOfWrongFalsely : Prop := fnExactOffsetOfRow.holds Try.pinned (OpenSpec.ofChange fnExactOffsetOfWrong)

/-- 'laws.FnExactFailsWith': WHATEVER THE INPUT: true; the input reads as it did. -/
def fnExactFailsWithSpec : ChangeSpec := { name := "fnExactFailsWith", fn := fun _ => fun
  | [d1, d2] => { results := [.lit (.bool true)], args := [d1, d2] }
  | _ => none }
def fnExactFailsWithRow : OpenClaim := { program := "ytjfnnnhedeebeaa", sum := "49e25de3784df7ac070e4c4a3547155e5f773e43a10e07ffa57f4028a9c5cf2c", func := "loop.example/g00958/laws.FnExactFailsWith", spec := "fnExactFailsWith", unfollowed := true, recurses := true, apart := false }
def FnExactFailsWithSaid : Prop := fnExactFailsWithRow.holds Try.pinned (OpenSpec.ofChange fnExactFailsWithSpec)

/-- ITS FALSE NEIGHBOUR: 'it returns false'. Refute it at one input. -/
def fnExactFailsWithWrong : ChangeSpec := { name := "fnExactFailsWith", fn := fun _ => fun
  | [d1, d2] => { results := [.lit (.bool false)], args := [d1, d2] }
  | _ => none }
def FnExactFailsWithWrongFalsely : Prop := fnExactFailsWithRow.holds Try.pinned (OpenSpec.ofChange fnExactFailsWithWrong)

/-- 'laws.FnExactMeetIntervals': WHATEVER THE INPUT: true; the input reads as it did. -/
def fnExactMeetIntervalsSpec : ChangeSpec := { name := "fnExactMeetIntervals", fn := fun _ => fun
  | [d1, d2] => { results := [.lit (.bool true)], args := [d1, d2] }
  | _ => none }
def fnExactMeetIntervalsRow : OpenClaim := { program := "ytjfnnnhedeebeaa", sum := "49e25de3784df7ac070e4c4a3547155e5f773e43a10e07ffa57f4028a9c5cf2c", func := "loop.example/g00958/laws.FnExactMeetIntervals", spec := "fnExactMeetIntervals", apart := false }
def FnExactMeetIntervalsSaid : Prop := fnExactMeetIntervalsRow.holds Try.pinned (OpenSpec.ofChange fnExactMeetIntervalsSpec)

/-- ITS FALSE NEIGHBOUR: 'it returns false'. Refute it at one input. -/
def fnExactMeetIntervalsWrong : ChangeSpec := { name := "fnExactMeetIntervals", fn := fun _ => fun
  | [d1, d2] => { results := [.lit (.bool false)], args := [d1, d2] }
  | _ => none }
def FnExactMeetIntervalsWrongFalsely : Prop := fnExactMeetIntervalsRow.holds Try.pinned (OpenSpec.ofChange fnExactMeetIntervalsWrong)

/- THE SECOND FORM. 'bulk': how many values and letters a reading holds, each counted each time it is reached (what is shared counts as often as it is met; a slice's spare places count too). A statement '..UptoSaid' is the law's where the arguments, and the package variables that the reading takes, are together of bulk at most 1048576: NARROWER than '..Said'. Prove '..Said' where nothing that the law and all that it calls make is longer than what came in: it says more and counts as full. Else prove '..UptoSaid'. A law counts once. -/
mutual
def uptoBulk {H : Type} : DataW H → Nat
  | .lit (.string bytes) => bytes.length + 1
  | .lit _ => 1
  | .nil => 1
  | .ptr d => uptoBulk d + 1
  | .slice elems spare => uptoBulkAll elems + uptoBulkAll spare + 1
  | .agg parts => uptoBulkAll parts + 1
  | .iface _ d => uptoBulk d + 1
  | .map entries => uptoBulkEntries entries + 1
  | .held _ => 1
def uptoBulkAll {H : Type} : List (DataW H) → Nat
  | [] => 0
  | d :: r => uptoBulk d + uptoBulkAll r
def uptoBulkEntries {H : Type} : List (Lit × DataW H) → Nat
  | [] => 0
  | x :: r => uptoBulkEntry x + uptoBulkEntries r
def uptoBulkEntry {H : Type} : Lit × DataW H → Nat
  | (.string bytes, d) => bytes.length + uptoBulk d + 1
  | (_, d) => uptoBulk d + 1
 end
def uptoSmall : (H : Type) → List (DataW H) → Bool := fun _ ds => decide (uptoBulkAll ds ≤ 1048576)
def OpenSpec.upto (s : _root_.Go.ChangeSpec) : _root_.Go.OpenSpec := { _root_.Go.OpenSpec.ofChange s with cond := some uptoSmall }

/-- 'laws.FnExactIsInterval', WHERE WHAT IT READS IS OF BULK AT MOST 1048576: true; the input reads as it did. -/
def fnExactIsIntervalUptoRow : OpenClaim := { program := "ytjfnnnhedeebeaa", sum := "49e25de3784df7ac070e4c4a3547155e5f773e43a10e07ffa57f4028a9c5cf2c", func := "loop.example/g00958/laws.FnExactIsInterval", spec := "fnExactIsInterval", apart := false, narrowed := true }
def FnExactIsIntervalUptoSaid : Prop := fnExactIsIntervalUptoRow.holds Try.pinned (OpenSpec.upto fnExactIsIntervalSpec)

/-- 'laws.FnExactWidthOf', WHERE WHAT IT READS IS OF BULK AT MOST 1048576: true; the input reads as it did. -/
def fnExactWidthOfUptoRow : OpenClaim := { program := "ytjfnnnhedeebeaa", sum := "49e25de3784df7ac070e4c4a3547155e5f773e43a10e07ffa57f4028a9c5cf2c", func := "loop.example/g00958/laws.FnExactWidthOf", spec := "fnExactWidthOf", apart := false, narrowed := true }
def FnExactWidthOfUptoSaid : Prop := fnExactWidthOfUptoRow.holds Try.pinned (OpenSpec.upto fnExactWidthOfSpec)

/-- 'laws.FnExactMissBound', WHERE WHAT IT READS IS OF BULK AT MOST 1048576: true; the input reads as it did. -/
def fnExactMissBoundUptoRow : OpenClaim := { program := "ytjfnnnhedeebeaa", sum := "49e25de3784df7ac070e4c4a3547155e5f773e43a10e07ffa57f4028a9c5cf2c", func := "loop.example/g00958/laws.FnExactMissBound", spec := "fnExactMissBound", apart := false, narrowed := true }
def FnExactMissBoundUptoSaid : Prop := fnExactMissBoundUptoRow.holds Try.pinned (OpenSpec.upto fnExactMissBoundSpec)

/-- 'laws.FnExactOffsetOf', WHERE WHAT IT READS IS OF BULK AT MOST 1048576: true; the input reads as it did. -/
def fnExactOffsetOfUptoRow : OpenClaim := { program := "ytjfnnnhedeebeaa", sum := "49e25de3784df7ac070e4c4a3547155e5f773e43a10e07ffa57f4028a9c5cf2c", func := "loop.example/g00958/laws.FnExactOffsetOf", spec := "fnExactOffsetOf", apart := false, narrowed := true }
def FnExactOffsetOfUptoSaid : Prop := fnExactOffsetOfUptoRow.holds Try.pinned (OpenSpec.upto fnExactOffsetOfSpec)

/-- 'laws.FnExactFailsWith', WHERE WHAT IT READS IS OF BULK AT MOST 1048576: true; the input reads as it did. -/
def fnExactFailsWithUptoRow : OpenClaim := { program := "ytjfnnnhedeebeaa", sum := "49e25de3784df7ac070e4c4a3547155e5f773e43a10e07ffa57f4028a9c5cf2c", func := "loop.example/g00958/laws.FnExactFailsWith", spec := "fnExactFailsWith", unfollowed := true, recurses := true, apart := false, narrowed := true }
def FnExactFailsWithUptoSaid : Prop := fnExactFailsWithUptoRow.holds Try.pinned (OpenSpec.upto fnExactFailsWithSpec)

/-- 'laws.FnExactMeetIntervals', WHERE WHAT IT READS IS OF BULK AT MOST 1048576: true; the input reads as it did. -/
def fnExactMeetIntervalsUptoRow : OpenClaim := { program := "ytjfnnnhedeebeaa", sum := "49e25de3784df7ac070e4c4a3547155e5f773e43a10e07ffa57f4028a9c5cf2c", func := "loop.example/g00958/laws.FnExactMeetIntervals", spec := "fnExactMeetIntervals", apart := false, narrowed := true }
def FnExactMeetIntervalsUptoSaid : Prop := fnExactMeetIntervalsUptoRow.holds Try.pinned (OpenSpec.upto fnExactMeetIntervalsSpec)

end Rows
end Go.Proofs.Ytjfnnnhedeebeaa
