/-
  No cell of these rows narrows 'for every input' (looked for: loops, veiled, ifaces, maps, wideKeys, modest, calm, conditions, laid).
  DERIVED. THE GIVEN ROWS OF THIS SEAT. 4 by the template 'for every input the law returns true; each argument reads behind the call as it read before'; 0 by the template 'total and deterministic' (their statements: YtcdlhjfiboomkaaTotals.lean).
  GIVEN WITH THE SEED: the statements are not yours to turn. If you find one false, say at which input.
  Laid BY PROGRAM, IN A SANDBOX (cutbox-rows.mjs): the forced cells as the released guide's own fill.sh prints them over the translation daf4b4bfa150a0df… (all of the seat's roots in one cut). By AI agents, Wed Nov 11 2026. No macro, syntax, notation, axiom, sorry.
-/
import Derived.Test.YtcdlhjfiboomkaaChecked
import GoSem.Claim
import GoSem.ClaimJoined
import GoSem.ClaimMapViews
import Derived.JoinedTies
import Derived.KernelRfl
namespace Go.Proofs.Ytcdlhjfiboomkaa
/- THE CELL 'sum', in the pinned program and in every row, IS THE sha256 OF THE DUMP (.gsa) THAT YtcdlhjfiboomkaaProg.lean LOADS. Nothing in Lean hashes anything: it is a label: what it is worth is what the hold of that sum in a sandbox is worth. -/
noncomputable def Try.pinned : Pinned := { name := "ytcdlhjfiboomkaa", sum := "daf4b4bfa150a0df5dea9a101500bb6e091c80a58766c8468dcdf4c1928c6f1f", checked := Try.checked }
namespace Rows
def none {H : Type} : Left H := { results := [], args := [] }

/-- 'laws.FnExactProbesOf': WHATEVER THE INPUT: true; the input reads as it did. -/
def fnExactProbesOfSpec : ChangeSpec := { name := "fnExactProbesOf", fn := fun _ => fun
  | [d1, d2] => { results := [.lit (.bool true)], args := [d1, d2] }
  | _ => none }
def fnExactProbesOfRow : OpenClaim := { program := "ytcdlhjfiboomkaa", sum := "daf4b4bfa150a0df5dea9a101500bb6e091c80a58766c8468dcdf4c1928c6f1f", func := "loop.example/g00958/laws.FnExactProbesOf", spec := "fnExactProbesOf", unfollowed := true, recurses := true, apart := false }
def FnExactProbesOfSaid : Prop := fnExactProbesOfRow.holds Try.pinned (OpenSpec.ofChange fnExactProbesOfSpec)

/-- ITS FALSE NEIGHBOUR: 'it returns false'. Refute it at one input. -/
def fnExactProbesOfWrong : ChangeSpec := { name := "fnExactProbesOf", fn := fun _ => fun
  | [d1, d2] => { results := [.lit (.bool false)], args := [d1, d2] }
  | _ => none }
def FnExactProbesOfWrongFalsely : Prop := fnExactProbesOfRow.holds Try.pinned (OpenSpec.ofChange fnExactProbesOfWrong)

/-- 'laws.FnExactHasCircle': WHATEVER THE INPUT: true; the input reads as it did. -/
def fnExactHasCircleSpec : ChangeSpec := { name := "fnExactHasCircle", fn := fun _ => fun
  | [d] => { results := [.lit (.bool true)], args := [d] }
  | _ => none }
def fnExactHasCircleRow : OpenClaim := { program := "ytcdlhjfiboomkaa", sum := "daf4b4bfa150a0df5dea9a101500bb6e091c80a58766c8468dcdf4c1928c6f1f", func := "loop.example/g00958/laws.FnExactHasCircle", spec := "fnExactHasCircle", unfollowed := true, recurses := true, apart := false }
def FnExactHasCircleSaid : Prop := fnExactHasCircleRow.holds Try.pinned (OpenSpec.ofChange fnExactHasCircleSpec)

/-- ITS FALSE NEIGHBOUR: 'it returns false'. Refute it at one input. -/
def fnExactHasCircleWrong : ChangeSpec := { name := "fnExactHasCircle", fn := fun _ => fun
  | [d] => { results := [.lit (.bool false)], args := [d] }
  | _ => none }
def FnExactHasCircleWrongFalsely : Prop := fnExactHasCircleRow.holds Try.pinned (OpenSpec.ofChange fnExactHasCircleWrong)

/-- 'laws.FnExactMissingFor': WHATEVER THE INPUT: true; the input reads as it did. -/
def fnExactMissingForSpec : ChangeSpec := { name := "fnExactMissingFor", fn := fun _ => fun
  | [d1, d2] => { results := [.lit (.bool true)], args := [d1, d2] }
  | _ => none }
def fnExactMissingForRow : OpenClaim := { program := "ytcdlhjfiboomkaa", sum := "daf4b4bfa150a0df5dea9a101500bb6e091c80a58766c8468dcdf4c1928c6f1f", func := "loop.example/g00958/laws.FnExactMissingFor", spec := "fnExactMissingFor", unfollowed := true, recurses := true, apart := false }
def FnExactMissingForSaid : Prop := fnExactMissingForRow.holds Try.pinned (OpenSpec.ofChange fnExactMissingForSpec)

/-- ITS FALSE NEIGHBOUR: 'it returns false'. Refute it at one input. -/
def fnExactMissingForWrong : ChangeSpec := { name := "fnExactMissingFor", fn := fun _ => fun
  | [d1, d2] => { results := [.lit (.bool false)], args := [d1, d2] }
  | _ => none }
def FnExactMissingForWrongFalsely : Prop := fnExactMissingForRow.holds Try.pinned (OpenSpec.ofChange fnExactMissingForWrong)

/-- 'laws.FnExactDelayOf': WHATEVER THE INPUT: true; the input reads as it did. -/
def fnExactDelayOfSpec : ChangeSpec := { name := "fnExactDelayOf", fn := fun _ => fun
  | [d1, d2, d3, d4] => { results := [.lit (.bool true)], args := [d1, d2, d3, d4] }
  | _ => none }
def fnExactDelayOfRow : OpenClaim := { program := "ytcdlhjfiboomkaa", sum := "daf4b4bfa150a0df5dea9a101500bb6e091c80a58766c8468dcdf4c1928c6f1f", func := "loop.example/g00958/laws.FnExactDelayOf", spec := "fnExactDelayOf", unfollowed := true, recurses := true, apart := false }
def FnExactDelayOfSaid : Prop := fnExactDelayOfRow.holds Try.pinned (OpenSpec.ofChange fnExactDelayOfSpec)

/-- ITS FALSE NEIGHBOUR: 'it returns false'. Refute it at one input. -/
def fnExactDelayOfWrong : ChangeSpec := { name := "fnExactDelayOf", fn := fun _ => fun
  | [d1, d2, d3, d4] => { results := [.lit (.bool false)], args := [d1, d2, d3, d4] }
  | _ => none }
def FnExactDelayOfWrongFalsely : Prop := fnExactDelayOfRow.holds Try.pinned (OpenSpec.ofChange fnExactDelayOfWrong)

/- THE SECOND FORM. 'bulk': how many values and letters a reading holds, each counted each time it is reached (what is shared counts as often as it is met; a slice's spare places count too). A statement '..UptoSaid' is the law's where the arguments, and the package variables that the reading takes, are together of bulk at most 1048576: NARROWER than '..Said'. Prove '..Said' where nothing that the law and all that it calls make is longer than what came in: it says more and counts as full. Else prove '..UptoSaid'. A law counts once. -/
mutual
def uptoBulk {H : Type} : DataW H → Nat
  | .lit (.string bytes) => bytes.length + 1
  | .lit _ => 1
  | .nil => 1
  | .ptr d => uptoBulk d + 1
  | .slice elems spare => uptoBulkAll elems + uptoBulkAll spare + 1
  | .agg parts => uptoBulkAll parts + 1
  | .iface _ d => uptoBulk d + 1
  | .map entries => uptoBulkEntries entries + 1
  | .held _ => 1
def uptoBulkAll {H : Type} : List (DataW H) → Nat
  | [] => 0
  | d :: r => uptoBulk d + uptoBulkAll r
def uptoBulkEntries {H : Type} : List (Lit × DataW H) → Nat
  | [] => 0
  | x :: r => uptoBulkEntry x + uptoBulkEntries r
def uptoBulkEntry {H : Type} : Lit × DataW H → Nat
  | (.string bytes, d) => bytes.length + uptoBulk d + 1
  | (_, d) => uptoBulk d + 1
 end
def uptoSmall : (H : Type) → List (DataW H) → Bool := fun _ ds => decide (uptoBulkAll ds ≤ 1048576)
def OpenSpec.upto (s : _root_.Go.ChangeSpec) : _root_.Go.OpenSpec := { _root_.Go.OpenSpec.ofChange s with cond := some uptoSmall }

/-- 'laws.FnExactProbesOf', WHERE WHAT IT READS IS OF BULK AT MOST 1048576: true; the input reads as it did. -/
def fnExactProbesOfUptoRow : OpenClaim := { program := "ytcdlhjfiboomkaa", sum := "daf4b4bfa150a0df5dea9a101500bb6e091c80a58766c8468dcdf4c1928c6f1f", func := "loop.example/g00958/laws.FnExactProbesOf", spec := "fnExactProbesOf", unfollowed := true, recurses := true, apart := false, narrowed := true }
def FnExactProbesOfUptoSaid : Prop := fnExactProbesOfUptoRow.holds Try.pinned (OpenSpec.upto fnExactProbesOfSpec)

/-- 'laws.FnExactHasCircle', WHERE WHAT IT READS IS OF BULK AT MOST 1048576: true; the input reads as it did. -/
def fnExactHasCircleUptoRow : OpenClaim := { program := "ytcdlhjfiboomkaa", sum := "daf4b4bfa150a0df5dea9a101500bb6e091c80a58766c8468dcdf4c1928c6f1f", func := "loop.example/g00958/laws.FnExactHasCircle", spec := "fnExactHasCircle", unfollowed := true, recurses := true, apart := false, narrowed := true }
def FnExactHasCircleUptoSaid : Prop := fnExactHasCircleUptoRow.holds Try.pinned (OpenSpec.upto fnExactHasCircleSpec)

/-- 'laws.FnExactMissingFor', WHERE WHAT IT READS IS OF BULK AT MOST 1048576: true; the input reads as it did. -/
def fnExactMissingForUptoRow : OpenClaim := { program := "ytcdlhjfiboomkaa", sum := "daf4b4bfa150a0df5dea9a101500bb6e091c80a58766c8468dcdf4c1928c6f1f", func := "loop.example/g00958/laws.FnExactMissingFor", spec := "fnExactMissingFor", unfollowed := true, recurses := true, apart := false, narrowed := true }
def FnExactMissingForUptoSaid : Prop := fnExactMissingForUptoRow.holds Try.pinned (OpenSpec.upto fnExactMissingForSpec)

/-- 'laws.FnExactDelayOf', WHERE WHAT IT READS IS OF BULK AT MOST 1048576: true; the input reads as it did. -/
def fnExactDelayOfUptoRow : OpenClaim := { program := "ytcdlhjfiboomkaa", sum := "daf4b4bfa150a0df5dea9a101500bb6e091c80a58766c8468dcdf4c1928c6f1f", func := "loop.example/g00958/laws.FnExactDelayOf", spec := "fnExactDelayOf", unfollowed := true, recurses := true, apart := false, narrowed := true }
def FnExactDelayOfUptoSaid : Prop := fnExactDelayOfUptoRow.holds Try.pinned (OpenSpec.upto fnExactDelayOfSpec)

end Rows
end Go.Proofs.Ytcdlhjfiboomkaa
