/-
  No cell of these rows narrows 'for every input' (looked for: loops, veiled, ifaces, maps, wideKeys, modest, calm, conditions, laid).
  DERIVED. THE GIVEN ROWS OF THIS SEAT. 7 by the template 'for every input the law returns true; each argument reads behind the call as it read before'; 0 by the template 'total and deterministic' (their statements: YtgmdicckecjncaaTotals.lean).
  GIVEN WITH THE SEED: the statements are not yours to turn. If you find one false, say at which input.
  Laid BY PROGRAM, IN A SANDBOX (cutbox-rows.mjs): the forced cells as the released guide's own fill.sh prints them over the translation 5c7118a815d4fb84… (all of the seat's roots in one cut). By AI agents, Wed Nov 11 2026. No macro, syntax, notation, axiom, sorry.
-/
import Derived.Test.YtgmdicckecjncaaChecked
import GoSem.Claim
import GoSem.ClaimJoined
import GoSem.ClaimMapViews
import Derived.JoinedTies
import Derived.KernelRfl
namespace Go.Proofs.Ytgmdicckecjncaa
/- THE CELL 'sum', in the pinned program and in every row, IS THE sha256 OF THE DUMP (.gsa) THAT YtgmdicckecjncaaProg.lean LOADS. Nothing in Lean hashes anything: it is a label: what it is worth is what the hold of that sum in a sandbox is worth. -/
noncomputable def Try.pinned : Pinned := { name := "ytgmdicckecjncaa", sum := "5c7118a815d4fb84f4f670c81c00ac5345b069a6775dd10a34f3595210e41354", checked := Try.checked }
namespace Rows
def none {H : Type} : Left H := { results := [], args := [] }

/-- 'laws.FnExactNarrowOnce': WHATEVER THE INPUT: true; the input reads as it did. -/
def fnExactNarrowOnceSpec : ChangeSpec := { name := "fnExactNarrowOnce", fn := fun _ => fun
  | [d1, d2, d3] => { results := [.lit (.bool true)], args := [d1, d2, d3] }
  | _ => none }
def fnExactNarrowOnceRow : OpenClaim := { program := "ytgmdicckecjncaa", sum := "5c7118a815d4fb84f4f670c81c00ac5345b069a6775dd10a34f3595210e41354", func := "loop.example/g00958/laws.FnExactNarrowOnce", spec := "fnExactNarrowOnce", unfollowed := true, recurses := true, apart := false }
def FnExactNarrowOnceSaid : Prop := fnExactNarrowOnceRow.holds Try.pinned (OpenSpec.ofChange fnExactNarrowOnceSpec)

/-- ITS FALSE NEIGHBOUR: 'it returns false'. Refute it at one input. -/
def fnExactNarrowOnceWrong : ChangeSpec := { name := "fnExactNarrowOnce", fn := fun _ => fun
  | [d1, d2, d3] => { results := [.lit (.bool false)], args := [d1, d2, d3] }
  | _ => none }
def FnExactNarrowOnceWrongFalsely : Prop := fnExactNarrowOnceRow.holds Try.pinned (OpenSpec.ofChange fnExactNarrowOnceWrong)

/-- 'laws.FnExactFitsMap': WHATEVER THE INPUT: true; the input reads as it did. -/
def fnExactFitsMapSpec : ChangeSpec := { name := "fnExactFitsMap", fn := fun _ => fun
  | [d1, d2] => { results := [.lit (.bool true)], args := [d1, d2] }
  | _ => none }
def fnExactFitsMapRow : OpenClaim := { program := "ytgmdicckecjncaa", sum := "5c7118a815d4fb84f4f670c81c00ac5345b069a6775dd10a34f3595210e41354", func := "loop.example/g00958/laws.FnExactFitsMap", spec := "fnExactFitsMap", unfollowed := true, recurses := true, apart := false }
def FnExactFitsMapSaid : Prop := fnExactFitsMapRow.holds Try.pinned (OpenSpec.ofChange fnExactFitsMapSpec)

/-- ITS FALSE NEIGHBOUR: 'it returns false'. Refute it at one input. -/
def fnExactFitsMapWrong : ChangeSpec := { name := "fnExactFitsMap", fn := fun _ => fun
  | [d1, d2] => { results := [.lit (.bool false)], args := [d1, d2] }
  | _ => none }
def FnExactFitsMapWrongFalsely : Prop := fnExactFitsMapRow.holds Try.pinned (OpenSpec.ofChange fnExactFitsMapWrong)

/-- 'laws.FnExactNarrowAll': WHATEVER THE INPUT: true; the input reads as it did. -/
def fnExactNarrowAllSpec : ChangeSpec := { name := "fnExactNarrowAll", fn := fun _ => fun
  | [d1, d2, d3] => { results := [.lit (.bool true)], args := [d1, d2, d3] }
  | _ => none }
def fnExactNarrowAllRow : OpenClaim := { program := "ytgmdicckecjncaa", sum := "5c7118a815d4fb84f4f670c81c00ac5345b069a6775dd10a34f3595210e41354", func := "loop.example/g00958/laws.FnExactNarrowAll", spec := "fnExactNarrowAll", unfollowed := true, recurses := true, apart := false }
def FnExactNarrowAllSaid : Prop := fnExactNarrowAllRow.holds Try.pinned (OpenSpec.ofChange fnExactNarrowAllSpec)

/-- ITS FALSE NEIGHBOUR: 'it returns false'. Refute it at one input. -/
def fnExactNarrowAllWrong : ChangeSpec := { name := "fnExactNarrowAll", fn := fun _ => fun
  | [d1, d2, d3] => { results := [.lit (.bool false)], args := [d1, d2, d3] }
  | _ => none }
def FnExactNarrowAllWrongFalsely : Prop := fnExactNarrowAllRow.holds Try.pinned (OpenSpec.ofChange fnExactNarrowAllWrong)

/-- 'laws.FnBounds': WHATEVER THE INPUT: true; the input reads as it did. -/
def fnBoundsSpec : ChangeSpec := { name := "fnBounds", fn := fun _ => fun
  | [d] => { results := [.lit (.bool true)], args := [d] }
  | _ => none }
def fnBoundsRow : OpenClaim := { program := "ytgmdicckecjncaa", sum := "5c7118a815d4fb84f4f670c81c00ac5345b069a6775dd10a34f3595210e41354", func := "loop.example/g00958/laws.FnBounds", spec := "fnBounds", unfollowed := true, recurses := true, apart := false }
def FnBoundsSaid : Prop := fnBoundsRow.holds Try.pinned (OpenSpec.ofChange fnBoundsSpec)

/-- ITS FALSE NEIGHBOUR: 'it returns false'. Refute it at one input. -/
def fnBoundsWrong : ChangeSpec := { name := "fnBounds", fn := fun _ => fun
  | [d] => { results := [.lit (.bool false)], args := [d] }
  | _ => none }
def FnBoundsWrongFalsely : Prop := fnBoundsRow.holds Try.pinned (OpenSpec.ofChange fnBoundsWrong)

/-- 'laws.FnExactUsefulRows': WHATEVER THE INPUT: true; the input reads as it did. -/
def fnExactUsefulRowsSpec : ChangeSpec := { name := "fnExactUsefulRows", fn := fun _ => fun
  | [d1, d2] => { results := [.lit (.bool true)], args := [d1, d2] }
  | _ => none }
def fnExactUsefulRowsRow : OpenClaim := { program := "ytgmdicckecjncaa", sum := "5c7118a815d4fb84f4f670c81c00ac5345b069a6775dd10a34f3595210e41354", func := "loop.example/g00958/laws.FnExactUsefulRows", spec := "fnExactUsefulRows", unfollowed := true, recurses := true, apart := false }
def FnExactUsefulRowsSaid : Prop := fnExactUsefulRowsRow.holds Try.pinned (OpenSpec.ofChange fnExactUsefulRowsSpec)

/-- ITS FALSE NEIGHBOUR: 'it returns false'. Refute it at one input. -/
def fnExactUsefulRowsWrong : ChangeSpec := { name := "fnExactUsefulRows", fn := fun _ => fun
  | [d1, d2] => { results := [.lit (.bool false)], args := [d1, d2] }
  | _ => none }
def FnExactUsefulRowsWrongFalsely : Prop := fnExactUsefulRowsRow.holds Try.pinned (OpenSpec.ofChange fnExactUsefulRowsWrong)

/-- 'laws.FnExactToldLinks': WHATEVER THE INPUT: true; the input reads as it did. -/
def fnExactToldLinksSpec : ChangeSpec := { name := "fnExactToldLinks", fn := fun _ => fun
  | [d1, d2] => { results := [.lit (.bool true)], args := [d1, d2] }
  | _ => none }
def fnExactToldLinksRow : OpenClaim := { program := "ytgmdicckecjncaa", sum := "5c7118a815d4fb84f4f670c81c00ac5345b069a6775dd10a34f3595210e41354", func := "loop.example/g00958/laws.FnExactToldLinks", spec := "fnExactToldLinks", unfollowed := true, recurses := true, apart := false }
def FnExactToldLinksSaid : Prop := fnExactToldLinksRow.holds Try.pinned (OpenSpec.ofChange fnExactToldLinksSpec)

/-- ITS FALSE NEIGHBOUR: 'it returns false'. Refute it at one input. -/
def fnExactToldLinksWrong : ChangeSpec := { name := "fnExactToldLinks", fn := fun _ => fun
  | [d1, d2] => { results := [.lit (.bool false)], args := [d1, d2] }
  | _ => none }
def FnExactToldLinksWrongFalsely : Prop := fnExactToldLinksRow.holds Try.pinned (OpenSpec.ofChange fnExactToldLinksWrong)

/-- 'laws.FnTold': WHATEVER THE INPUT: true; the input reads as it did. -/
def fnToldSpec : ChangeSpec := { name := "fnTold", fn := fun _ => fun
  | [d] => { results := [.lit (.bool true)], args := [d] }
  | _ => none }
def fnToldRow : OpenClaim := { program := "ytgmdicckecjncaa", sum := "5c7118a815d4fb84f4f670c81c00ac5345b069a6775dd10a34f3595210e41354", func := "loop.example/g00958/laws.FnTold", spec := "fnTold", unfollowed := true, recurses := true, apart := false }
def FnToldSaid : Prop := fnToldRow.holds Try.pinned (OpenSpec.ofChange fnToldSpec)

/-- ITS FALSE NEIGHBOUR: 'it returns false'. Refute it at one input. -/
def fnToldWrong : ChangeSpec := { name := "fnTold", fn := fun _ => fun
  | [d] => { results := [.lit (.bool false)], args := [d] }
  | _ => none }
def FnToldWrongFalsely : Prop := fnToldRow.holds Try.pinned (OpenSpec.ofChange fnToldWrong)

/- THE SECOND FORM. 'bulk': how many values and letters a reading holds, each counted each time it is reached (what is shared counts as often as it is met; a slice's spare places count too). A statement '..UptoSaid' is the law's where the arguments, and the package variables that the reading takes, are together of bulk at most 1048576: NARROWER than '..Said'. Prove '..Said' where nothing that the law and all that it calls make is longer than what came in: it says more and counts as full. Else prove '..UptoSaid'. A law counts once. -/
mutual
def uptoBulk {H : Type} : DataW H → Nat
  | .lit (.string bytes) => bytes.length + 1
  | .lit _ => 1
  | .nil => 1
  | .ptr d => uptoBulk d + 1
  | .slice elems spare => uptoBulkAll elems + uptoBulkAll spare + 1
  | .agg parts => uptoBulkAll parts + 1
  | .iface _ d => uptoBulk d + 1
  | .map entries => uptoBulkEntries entries + 1
  | .held _ => 1
def uptoBulkAll {H : Type} : List (DataW H) → Nat
  | [] => 0
  | d :: r => uptoBulk d + uptoBulkAll r
def uptoBulkEntries {H : Type} : List (Lit × DataW H) → Nat
  | [] => 0
  | x :: r => uptoBulkEntry x + uptoBulkEntries r
def uptoBulkEntry {H : Type} : Lit × DataW H → Nat
  | (.string bytes, d) => bytes.length + uptoBulk d + 1
  | (_, d) => uptoBulk d + 1
 end
def uptoSmall : (H : Type) → List (DataW H) → Bool := fun _ ds => decide (uptoBulkAll ds ≤ 1048576)
def OpenSpec.upto (s : _root_.Go.ChangeSpec) : _root_.Go.OpenSpec := { _root_.Go.OpenSpec.ofChange s with cond := some uptoSmall }

/-- 'laws.FnExactNarrowOnce', WHERE WHAT IT READS IS OF BULK AT MOST 1048576: true; the input reads as it did. -/
def fnExactNarrowOnceUptoRow : OpenClaim := { program := "ytgmdicckecjncaa", sum := "5c7118a815d4fb84f4f670c81c00ac5345b069a6775dd10a34f3595210e41354", func := "loop.example/g00958/laws.FnExactNarrowOnce", spec := "fnExactNarrowOnce", unfollowed := true, recurses := true, apart := false, narrowed := true }
def FnExactNarrowOnceUptoSaid : Prop := fnExactNarrowOnceUptoRow.holds Try.pinned (OpenSpec.upto fnExactNarrowOnceSpec)

/-- 'laws.FnExactFitsMap', WHERE WHAT IT READS IS OF BULK AT MOST 1048576: true; the input reads as it did. -/
def fnExactFitsMapUptoRow : OpenClaim := { program := "ytgmdicckecjncaa", sum := "5c7118a815d4fb84f4f670c81c00ac5345b069a6775dd10a34f3595210e41354", func := "loop.example/g00958/laws.FnExactFitsMap", spec := "fnExactFitsMap", unfollowed := true, recurses := true, apart := false, narrowed := true }
def FnExactFitsMapUptoSaid : Prop := fnExactFitsMapUptoRow.holds Try.pinned (OpenSpec.upto fnExactFitsMapSpec)

/-- 'laws.FnExactNarrowAll', WHERE WHAT IT READS IS OF BULK AT MOST 1048576: true; the input reads as it did. -/
def fnExactNarrowAllUptoRow : OpenClaim := { program := "ytgmdicckecjncaa", sum := "5c7118a815d4fb84f4f670c81c00ac5345b069a6775dd10a34f3595210e41354", func := "loop.example/g00958/laws.FnExactNarrowAll", spec := "fnExactNarrowAll", unfollowed := true, recurses := true, apart := false, narrowed := true }
def FnExactNarrowAllUptoSaid : Prop := fnExactNarrowAllUptoRow.holds Try.pinned (OpenSpec.upto fnExactNarrowAllSpec)

/-- 'laws.FnBounds', WHERE WHAT IT READS IS OF BULK AT MOST 1048576: true; the input reads as it did. -/
def fnBoundsUptoRow : OpenClaim := { program := "ytgmdicckecjncaa", sum := "5c7118a815d4fb84f4f670c81c00ac5345b069a6775dd10a34f3595210e41354", func := "loop.example/g00958/laws.FnBounds", spec := "fnBounds", unfollowed := true, recurses := true, apart := false, narrowed := true }
def FnBoundsUptoSaid : Prop := fnBoundsUptoRow.holds Try.pinned (OpenSpec.upto fnBoundsSpec)

/-- 'laws.FnExactUsefulRows', WHERE WHAT IT READS IS OF BULK AT MOST 1048576: true; the input reads as it did. -/
def fnExactUsefulRowsUptoRow : OpenClaim := { program := "ytgmdicckecjncaa", sum := "5c7118a815d4fb84f4f670c81c00ac5345b069a6775dd10a34f3595210e41354", func := "loop.example/g00958/laws.FnExactUsefulRows", spec := "fnExactUsefulRows", unfollowed := true, recurses := true, apart := false, narrowed := true }
def FnExactUsefulRowsUptoSaid : Prop := fnExactUsefulRowsUptoRow.holds Try.pinned (OpenSpec.upto fnExactUsefulRowsSpec)

/-- 'laws.FnExactToldLinks', WHERE WHAT IT READS IS OF BULK AT MOST 1048576: true; the input reads as it did. -/
def fnExactToldLinksUptoRow : OpenClaim := { program := "ytgmdicckecjncaa", sum := "5c7118a815d4fb84f4f670c81c00ac5345b069a6775dd10a34f3595210e41354", func := "loop.example/g00958/laws.FnExactToldLinks", spec := "fnExactToldLinks", unfollowed := true, recurses := true, apart := false, narrowed := true }
def FnExactToldLinksUptoSaid : Prop := fnExactToldLinksUptoRow.holds Try.pinned (OpenSpec.upto fnExactToldLinksSpec)

/-- 'laws.FnTold', WHERE WHAT IT READS IS OF BULK AT MOST 1048576: true; the input reads as it did. -/
def fnToldUptoRow : OpenClaim := { program := "ytgmdicckecjncaa", sum := "5c7118a815d4fb84f4f670c81c00ac5345b069a6775dd10a34f3595210e41354", func := "loop.example/g00958/laws.FnTold", spec := "fnTold", unfollowed := true, recurses := true, apart := false, narrowed := true }
def FnToldUptoSaid : Prop := fnToldUptoRow.holds Try.pinned (OpenSpec.upto fnToldSpec)

end Rows
end Go.Proofs.Ytgmdicckecjncaa
