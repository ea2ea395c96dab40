/-
  No cell of these rows narrows 'for every input' (looked for: loops, veiled, ifaces, maps, wideKeys, modest, calm, conditions, laid).
  DERIVED. THE GIVEN ROWS OF THIS SEAT. 8 by the template 'for every input the law returns true; each argument reads behind the call as it read before'; 0 by the template 'total and deterministic' (their statements: YtfjiijlhheajmaaTotals.lean).
  GIVEN WITH THE SEED: the statements are not yours to turn. If you find one false, say at which input.
  Laid BY PROGRAM, IN A SANDBOX (cutbox-rows.mjs): the forced cells as the released guide's own fill.sh prints them over the translation 7818cf6fedb07f56… (all of the seat's roots in one cut). By AI agents, Wed Nov 11 2026. No macro, syntax, notation, axiom, sorry.
-/
import Derived.Test.YtfjiijlhheajmaaChecked
import GoSem.Claim
import GoSem.ClaimJoined
import GoSem.ClaimMapViews
import Derived.JoinedTies
import Derived.KernelRfl
namespace Go.Proofs.Ytfjiijlhheajmaa
/- THE CELL 'sum', in the pinned program and in every row, IS THE sha256 OF THE DUMP (.gsa) THAT YtfjiijlhheajmaaProg.lean LOADS. Nothing in Lean hashes anything: it is a label: what it is worth is what the hold of that sum in a sandbox is worth. -/
noncomputable def Try.pinned : Pinned := { name := "ytfjiijlhheajmaa", sum := "7818cf6fedb07f56af78cc46d06dffdc59325ee747f151c08c586b1cb552d84c", checked := Try.checked }
namespace Rows
def none {H : Type} : Left H := { results := [], args := [] }

/-- 'laws.FnExactIsBranch': WHATEVER THE INPUT: true; the input reads as it did. -/
def fnExactIsBranchSpec : ChangeSpec := { name := "fnExactIsBranch", fn := fun _ => fun
  | [d] => { results := [.lit (.bool true)], args := [d] }
  | _ => none }
def fnExactIsBranchRow : OpenClaim := { program := "ytfjiijlhheajmaa", sum := "7818cf6fedb07f56af78cc46d06dffdc59325ee747f151c08c586b1cb552d84c", func := "loop.example/g00958/laws.FnExactIsBranch", spec := "fnExactIsBranch", recurses := true, apart := false }
def FnExactIsBranchSaid : Prop := fnExactIsBranchRow.holds Try.pinned (OpenSpec.ofChange fnExactIsBranchSpec)

/-- ITS FALSE NEIGHBOUR: 'it returns false'. Refute it at one input. -/
def fnExactIsBranchWrong : ChangeSpec := { name := "fnExactIsBranch", fn := fun _ => fun
  | [d] => { results := [.lit (.bool false)], args := [d] }
  | _ => none }
def FnExactIsBranchWrongFalsely : Prop := fnExactIsBranchRow.holds Try.pinned (OpenSpec.ofChange fnExactIsBranchWrong)

/-- 'laws.FnExactAddressesOf': WHATEVER THE INPUT: true; the input reads as it did. -/
def fnExactAddressesOfSpec : ChangeSpec := { name := "fnExactAddressesOf", fn := fun _ => fun
  | [d] => { results := [.lit (.bool true)], args := [d] }
  | _ => none }
def fnExactAddressesOfRow : OpenClaim := { program := "ytfjiijlhheajmaa", sum := "7818cf6fedb07f56af78cc46d06dffdc59325ee747f151c08c586b1cb552d84c", func := "loop.example/g00958/laws.FnExactAddressesOf", spec := "fnExactAddressesOf", recurses := true, apart := false }
def FnExactAddressesOfSaid : Prop := fnExactAddressesOfRow.holds Try.pinned (OpenSpec.ofChange fnExactAddressesOfSpec)

/-- ITS FALSE NEIGHBOUR: 'it returns false'. Refute it at one input. -/
def fnExactAddressesOfWrong : ChangeSpec := { name := "fnExactAddressesOf", fn := fun _ => fun
  | [d] => { results := [.lit (.bool false)], args := [d] }
  | _ => none }
def FnExactAddressesOfWrongFalsely : Prop := fnExactAddressesOfRow.holds Try.pinned (OpenSpec.ofChange fnExactAddressesOfWrong)

/-- 'laws.FnExactNextFor': WHATEVER THE INPUT: true; the input reads as it did. -/
def fnExactNextForSpec : ChangeSpec := { name := "fnExactNextFor", fn := fun _ => fun
  | [d1, d2] => { results := [.lit (.bool true)], args := [d1, d2] }
  | _ => none }
def fnExactNextForRow : OpenClaim := { program := "ytfjiijlhheajmaa", sum := "7818cf6fedb07f56af78cc46d06dffdc59325ee747f151c08c586b1cb552d84c", func := "loop.example/g00958/laws.FnExactNextFor", spec := "fnExactNextFor", recurses := true, apart := false }
def FnExactNextForSaid : Prop := fnExactNextForRow.holds Try.pinned (OpenSpec.ofChange fnExactNextForSpec)

/-- ITS FALSE NEIGHBOUR: 'it returns false'. Refute it at one input. -/
def fnExactNextForWrong : ChangeSpec := { name := "fnExactNextFor", fn := fun _ => fun
  | [d1, d2] => { results := [.lit (.bool false)], args := [d1, d2] }
  | _ => none }
def FnExactNextForWrongFalsely : Prop := fnExactNextForRow.holds Try.pinned (OpenSpec.ofChange fnExactNextForWrong)

/-- 'laws.FnExactSurelyApart': WHATEVER THE INPUT: true; the input reads as it did. -/
def fnExactSurelyApartSpec : ChangeSpec := { name := "fnExactSurelyApart", fn := fun _ => fun
  | [d1, d2, d3] => { results := [.lit (.bool true)], args := [d1, d2, d3] }
  | _ => none }
def fnExactSurelyApartRow : OpenClaim := { program := "ytfjiijlhheajmaa", sum := "7818cf6fedb07f56af78cc46d06dffdc59325ee747f151c08c586b1cb552d84c", func := "loop.example/g00958/laws.FnExactSurelyApart", spec := "fnExactSurelyApart", unfollowed := true, recurses := true, apart := false }
def FnExactSurelyApartSaid : Prop := fnExactSurelyApartRow.holds Try.pinned (OpenSpec.ofChange fnExactSurelyApartSpec)

/-- ITS FALSE NEIGHBOUR: 'it returns false'. Refute it at one input. -/
def fnExactSurelyApartWrong : ChangeSpec := { name := "fnExactSurelyApart", fn := fun _ => fun
  | [d1, d2, d3] => { results := [.lit (.bool false)], args := [d1, d2, d3] }
  | _ => none }
def FnExactSurelyApartWrongFalsely : Prop := fnExactSurelyApartRow.holds Try.pinned (OpenSpec.ofChange fnExactSurelyApartWrong)

/-- 'laws.FnExactMayBeOne': WHATEVER THE INPUT: true; the input reads as it did. -/
def fnExactMayBeOneSpec : ChangeSpec := { name := "fnExactMayBeOne", fn := fun _ => fun
  | [d1, d2] => { results := [.lit (.bool true)], args := [d1, d2] }
  | _ => none }
def fnExactMayBeOneRow : OpenClaim := { program := "ytfjiijlhheajmaa", sum := "7818cf6fedb07f56af78cc46d06dffdc59325ee747f151c08c586b1cb552d84c", func := "loop.example/g00958/laws.FnExactMayBeOne", spec := "fnExactMayBeOne", unfollowed := true, recurses := true, apart := false }
def FnExactMayBeOneSaid : Prop := fnExactMayBeOneRow.holds Try.pinned (OpenSpec.ofChange fnExactMayBeOneSpec)

/-- ITS FALSE NEIGHBOUR: 'it returns false'. Refute it at one input. -/
def fnExactMayBeOneWrong : ChangeSpec := { name := "fnExactMayBeOne", fn := fun _ => fun
  | [d1, d2] => { results := [.lit (.bool false)], args := [d1, d2] }
  | _ => none }
def FnExactMayBeOneWrongFalsely : Prop := fnExactMayBeOneRow.holds Try.pinned (OpenSpec.ofChange fnExactMayBeOneWrong)

/-- 'laws.FnExactSeenLinks': WHATEVER THE INPUT: true; the input reads as it did. -/
def fnExactSeenLinksSpec : ChangeSpec := { name := "fnExactSeenLinks", fn := fun _ => fun
  | [d] => { results := [.lit (.bool true)], args := [d] }
  | _ => none }
def fnExactSeenLinksRow : OpenClaim := { program := "ytfjiijlhheajmaa", sum := "7818cf6fedb07f56af78cc46d06dffdc59325ee747f151c08c586b1cb552d84c", func := "loop.example/g00958/laws.FnExactSeenLinks", spec := "fnExactSeenLinks", recurses := true, apart := false }
def FnExactSeenLinksSaid : Prop := fnExactSeenLinksRow.holds Try.pinned (OpenSpec.ofChange fnExactSeenLinksSpec)

/-- ITS FALSE NEIGHBOUR: 'it returns false'. Refute it at one input. -/
def fnExactSeenLinksWrong : ChangeSpec := { name := "fnExactSeenLinks", fn := fun _ => fun
  | [d] => { results := [.lit (.bool false)], args := [d] }
  | _ => none }
def FnExactSeenLinksWrongFalsely : Prop := fnExactSeenLinksRow.holds Try.pinned (OpenSpec.ofChange fnExactSeenLinksWrong)

/-- 'laws.FnBranches': WHATEVER THE INPUT: true; the input reads as it did. -/
def fnBranchesSpec : ChangeSpec := { name := "fnBranches", fn := fun _ => fun
  | [d] => { results := [.lit (.bool true)], args := [d] }
  | _ => none }
def fnBranchesRow : OpenClaim := { program := "ytfjiijlhheajmaa", sum := "7818cf6fedb07f56af78cc46d06dffdc59325ee747f151c08c586b1cb552d84c", func := "loop.example/g00958/laws.FnBranches", spec := "fnBranches", recurses := true, apart := false }
def FnBranchesSaid : Prop := fnBranchesRow.holds Try.pinned (OpenSpec.ofChange fnBranchesSpec)

/-- ITS FALSE NEIGHBOUR: 'it returns false'. Refute it at one input. -/
def fnBranchesWrong : ChangeSpec := { name := "fnBranches", fn := fun _ => fun
  | [d] => { results := [.lit (.bool false)], args := [d] }
  | _ => none }
def FnBranchesWrongFalsely : Prop := fnBranchesRow.holds Try.pinned (OpenSpec.ofChange fnBranchesWrong)

/-- 'laws.FnExactSeenNexts': WHATEVER THE INPUT: true; the input reads as it did. -/
def fnExactSeenNextsSpec : ChangeSpec := { name := "fnExactSeenNexts", fn := fun _ => fun
  | [d1, d2] => { results := [.lit (.bool true)], args := [d1, d2] }
  | _ => none }
def fnExactSeenNextsRow : OpenClaim := { program := "ytfjiijlhheajmaa", sum := "7818cf6fedb07f56af78cc46d06dffdc59325ee747f151c08c586b1cb552d84c", func := "loop.example/g00958/laws.FnExactSeenNexts", spec := "fnExactSeenNexts", recurses := true, apart := false }
def FnExactSeenNextsSaid : Prop := fnExactSeenNextsRow.holds Try.pinned (OpenSpec.ofChange fnExactSeenNextsSpec)

/-- ITS FALSE NEIGHBOUR: 'it returns false'. Refute it at one input. -/
def fnExactSeenNextsWrong : ChangeSpec := { name := "fnExactSeenNexts", fn := fun _ => fun
  | [d1, d2] => { results := [.lit (.bool false)], args := [d1, d2] }
  | _ => none }
def FnExactSeenNextsWrongFalsely : Prop := fnExactSeenNextsRow.holds Try.pinned (OpenSpec.ofChange fnExactSeenNextsWrong)

/- THE SECOND FORM. 'bulk': how many values and letters a reading holds, each counted each time it is reached (what is shared counts as often as it is met; a slice's spare places count too). A statement '..UptoSaid' is the law's where the arguments, and the package variables that the reading takes, are together of bulk at most 1048576: NARROWER than '..Said'. Prove '..Said' where nothing that the law and all that it calls make is longer than what came in: it says more and counts as full. Else prove '..UptoSaid'. A law counts once. -/
mutual
def uptoBulk {H : Type} : DataW H → Nat
  | .lit (.string bytes) => bytes.length + 1
  | .lit _ => 1
  | .nil => 1
  | .ptr d => uptoBulk d + 1
  | .slice elems spare => uptoBulkAll elems + uptoBulkAll spare + 1
  | .agg parts => uptoBulkAll parts + 1
  | .iface _ d => uptoBulk d + 1
  | .map entries => uptoBulkEntries entries + 1
  | .held _ => 1
def uptoBulkAll {H : Type} : List (DataW H) → Nat
  | [] => 0
  | d :: r => uptoBulk d + uptoBulkAll r
def uptoBulkEntries {H : Type} : List (Lit × DataW H) → Nat
  | [] => 0
  | x :: r => uptoBulkEntry x + uptoBulkEntries r
def uptoBulkEntry {H : Type} : Lit × DataW H → Nat
  | (.string bytes, d) => bytes.length + uptoBulk d + 1
  | (_, d) => uptoBulk d + 1
 end
def uptoSmall : (H : Type) → List (DataW H) → Bool := fun _ ds => decide (uptoBulkAll ds ≤ 1048576)
def OpenSpec.upto (s : _root_.Go.ChangeSpec) : _root_.Go.OpenSpec := { _root_.Go.OpenSpec.ofChange s with cond := some uptoSmall }

/-- 'laws.FnExactIsBranch', WHERE WHAT IT READS IS OF BULK AT MOST 1048576: true; the input reads as it did. -/
def fnExactIsBranchUptoRow : OpenClaim := { program := "ytfjiijlhheajmaa", sum := "7818cf6fedb07f56af78cc46d06dffdc59325ee747f151c08c586b1cb552d84c", func := "loop.example/g00958/laws.FnExactIsBranch", spec := "fnExactIsBranch", recurses := true, apart := false, narrowed := true }
def FnExactIsBranchUptoSaid : Prop := fnExactIsBranchUptoRow.holds Try.pinned (OpenSpec.upto fnExactIsBranchSpec)

/-- 'laws.FnExactAddressesOf', WHERE WHAT IT READS IS OF BULK AT MOST 1048576: true; the input reads as it did. -/
def fnExactAddressesOfUptoRow : OpenClaim := { program := "ytfjiijlhheajmaa", sum := "7818cf6fedb07f56af78cc46d06dffdc59325ee747f151c08c586b1cb552d84c", func := "loop.example/g00958/laws.FnExactAddressesOf", spec := "fnExactAddressesOf", recurses := true, apart := false, narrowed := true }
def FnExactAddressesOfUptoSaid : Prop := fnExactAddressesOfUptoRow.holds Try.pinned (OpenSpec.upto fnExactAddressesOfSpec)

/-- 'laws.FnExactNextFor', WHERE WHAT IT READS IS OF BULK AT MOST 1048576: true; the input reads as it did. -/
def fnExactNextForUptoRow : OpenClaim := { program := "ytfjiijlhheajmaa", sum := "7818cf6fedb07f56af78cc46d06dffdc59325ee747f151c08c586b1cb552d84c", func := "loop.example/g00958/laws.FnExactNextFor", spec := "fnExactNextFor", recurses := true, apart := false, narrowed := true }
def FnExactNextForUptoSaid : Prop := fnExactNextForUptoRow.holds Try.pinned (OpenSpec.upto fnExactNextForSpec)

/-- 'laws.FnExactSurelyApart', WHERE WHAT IT READS IS OF BULK AT MOST 1048576: true; the input reads as it did. -/
def fnExactSurelyApartUptoRow : OpenClaim := { program := "ytfjiijlhheajmaa", sum := "7818cf6fedb07f56af78cc46d06dffdc59325ee747f151c08c586b1cb552d84c", func := "loop.example/g00958/laws.FnExactSurelyApart", spec := "fnExactSurelyApart", unfollowed := true, recurses := true, apart := false, narrowed := true }
def FnExactSurelyApartUptoSaid : Prop := fnExactSurelyApartUptoRow.holds Try.pinned (OpenSpec.upto fnExactSurelyApartSpec)

/-- 'laws.FnExactMayBeOne', WHERE WHAT IT READS IS OF BULK AT MOST 1048576: true; the input reads as it did. -/
def fnExactMayBeOneUptoRow : OpenClaim := { program := "ytfjiijlhheajmaa", sum := "7818cf6fedb07f56af78cc46d06dffdc59325ee747f151c08c586b1cb552d84c", func := "loop.example/g00958/laws.FnExactMayBeOne", spec := "fnExactMayBeOne", unfollowed := true, recurses := true, apart := false, narrowed := true }
def FnExactMayBeOneUptoSaid : Prop := fnExactMayBeOneUptoRow.holds Try.pinned (OpenSpec.upto fnExactMayBeOneSpec)

/-- 'laws.FnExactSeenLinks', WHERE WHAT IT READS IS OF BULK AT MOST 1048576: true; the input reads as it did. -/
def fnExactSeenLinksUptoRow : OpenClaim := { program := "ytfjiijlhheajmaa", sum := "7818cf6fedb07f56af78cc46d06dffdc59325ee747f151c08c586b1cb552d84c", func := "loop.example/g00958/laws.FnExactSeenLinks", spec := "fnExactSeenLinks", recurses := true, apart := false, narrowed := true }
def FnExactSeenLinksUptoSaid : Prop := fnExactSeenLinksUptoRow.holds Try.pinned (OpenSpec.upto fnExactSeenLinksSpec)

/-- 'laws.FnBranches', WHERE WHAT IT READS IS OF BULK AT MOST 1048576: true; the input reads as it did. -/
def fnBranchesUptoRow : OpenClaim := { program := "ytfjiijlhheajmaa", sum := "7818cf6fedb07f56af78cc46d06dffdc59325ee747f151c08c586b1cb552d84c", func := "loop.example/g00958/laws.FnBranches", spec := "fnBranches", recurses := true, apart := false, narrowed := true }
def FnBranchesUptoSaid : Prop := fnBranchesUptoRow.holds Try.pinned (OpenSpec.upto fnBranchesSpec)

/-- 'laws.FnExactSeenNexts', WHERE WHAT IT READS IS OF BULK AT MOST 1048576: true; the input reads as it did. -/
def fnExactSeenNextsUptoRow : OpenClaim := { program := "ytfjiijlhheajmaa", sum := "7818cf6fedb07f56af78cc46d06dffdc59325ee747f151c08c586b1cb552d84c", func := "loop.example/g00958/laws.FnExactSeenNexts", spec := "fnExactSeenNexts", recurses := true, apart := false, narrowed := true }
def FnExactSeenNextsUptoSaid : Prop := fnExactSeenNextsUptoRow.holds Try.pinned (OpenSpec.upto fnExactSeenNextsSpec)

end Rows
end Go.Proofs.Ytfjiijlhheajmaa
