/-
  No cell of these rows narrows 'for every input' (looked for: loops, veiled, ifaces, maps, wideKeys, modest, calm, conditions, laid).
  DERIVED. THE GIVEN ROWS OF THIS SEAT. 8 by the template 'for every input the law returns true; each argument reads behind the call as it read before'; 0 by the template 'total and deterministic' (their statements: YthfnnlbppkhhjaaTotals.lean).
  GIVEN WITH THE SEED: the statements are not yours to turn. If you find one false, say at which input.
  Laid BY PROGRAM, IN A SANDBOX (cutbox-rows.mjs): the forced cells as the released guide's own fill.sh prints them over the translation 4e41db36686d5c22… (all of the seat's roots in one cut). By AI agents, Wed Nov 11 2026. No macro, syntax, notation, axiom, sorry.
-/
import Derived.Test.YthfnnlbppkhhjaaChecked
import GoSem.Claim
import GoSem.ClaimJoined
import GoSem.ClaimMapViews
import Derived.JoinedTies
import Derived.KernelRfl
namespace Go.Proofs.Ythfnnlbppkhhjaa
/- THE CELL 'sum', in the pinned program and in every row, IS THE sha256 OF THE DUMP (.gsa) THAT YthfnnlbppkhhjaaProg.lean LOADS. Nothing in Lean hashes anything: it is a label: what it is worth is what the hold of that sum in a sandbox is worth. -/
noncomputable def Try.pinned : Pinned := { name := "ythfnnlbppkhhjaa", sum := "4e41db36686d5c2201c997b2ff01d1409436e077d9ab9bd862d936815b463f52", checked := Try.checked }
namespace Rows
def none {H : Type} : Left H := { results := [], args := [] }

/-- 'laws.FnExactMeetAll': WHATEVER THE INPUT: true; the input reads as it did. -/
def fnExactMeetAllSpec : ChangeSpec := { name := "fnExactMeetAll", fn := fun _ => fun
  | [d] => { results := [.lit (.bool true)], args := [d] }
  | _ => none }
def fnExactMeetAllRow : OpenClaim := { program := "ythfnnlbppkhhjaa", sum := "4e41db36686d5c2201c997b2ff01d1409436e077d9ab9bd862d936815b463f52", func := "loop.example/g00958/laws.FnExactMeetAll", spec := "fnExactMeetAll", apart := false }
def FnExactMeetAllSaid : Prop := fnExactMeetAllRow.holds Try.pinned (OpenSpec.ofChange fnExactMeetAllSpec)

/-- ITS FALSE NEIGHBOUR: 'it returns false'. Refute it at one input. -/
def fnExactMeetAllWrong : ChangeSpec := { name := "fnExactMeetAll", fn := fun _ => fun
  | [d] => { results := [.lit (.bool false)], args := [d] }
  | _ => none }
def FnExactMeetAllWrongFalsely : Prop := fnExactMeetAllRow.holds Try.pinned (OpenSpec.ofChange fnExactMeetAllWrong)

/-- 'laws.FnExactStartBounds': WHATEVER THE INPUT: true; the input reads as it did. -/
def fnExactStartBoundsSpec : ChangeSpec := { name := "fnExactStartBounds", fn := fun _ => fun
  | [d] => { results := [.lit (.bool true)], args := [d] }
  | _ => none }
def fnExactStartBoundsRow : OpenClaim := { program := "ythfnnlbppkhhjaa", sum := "4e41db36686d5c2201c997b2ff01d1409436e077d9ab9bd862d936815b463f52", func := "loop.example/g00958/laws.FnExactStartBounds", spec := "fnExactStartBounds", apart := false }
def FnExactStartBoundsSaid : Prop := fnExactStartBoundsRow.holds Try.pinned (OpenSpec.ofChange fnExactStartBoundsSpec)

/-- ITS FALSE NEIGHBOUR: 'it returns false'. Refute it at one input. -/
def fnExactStartBoundsWrong : ChangeSpec := { name := "fnExactStartBounds", fn := fun _ => fun
  | [d] => { results := [.lit (.bool false)], args := [d] }
  | _ => none }
def FnExactStartBoundsWrongFalsely : Prop := fnExactStartBoundsRow.holds Try.pinned (OpenSpec.ofChange fnExactStartBoundsWrong)

/-- 'laws.FnExactSetsOf': WHATEVER THE INPUT: true; the input reads as it did. -/
def fnExactSetsOfSpec : ChangeSpec := { name := "fnExactSetsOf", fn := fun _ => fun
  | [d1, d2] => { results := [.lit (.bool true)], args := [d1, d2] }
  | _ => none }
def fnExactSetsOfRow : OpenClaim := { program := "ythfnnlbppkhhjaa", sum := "4e41db36686d5c2201c997b2ff01d1409436e077d9ab9bd862d936815b463f52", func := "loop.example/g00958/laws.FnExactSetsOf", spec := "fnExactSetsOf", unfollowed := true, recurses := true, apart := false }
def FnExactSetsOfSaid : Prop := fnExactSetsOfRow.holds Try.pinned (OpenSpec.ofChange fnExactSetsOfSpec)

/-- ITS FALSE NEIGHBOUR: 'it returns false'. Refute it at one input. -/
def fnExactSetsOfWrong : ChangeSpec := { name := "fnExactSetsOf", fn := fun _ => fun
  | [d1, d2] => { results := [.lit (.bool false)], args := [d1, d2] }
  | _ => none }
def FnExactSetsOfWrongFalsely : Prop := fnExactSetsOfRow.holds Try.pinned (OpenSpec.ofChange fnExactSetsOfWrong)

/-- 'laws.FnExactIsNet': WHATEVER THE INPUT: true; the input reads as it did. -/
def fnExactIsNetSpec : ChangeSpec := { name := "fnExactIsNet", fn := fun _ => fun
  | [d] => { results := [.lit (.bool true)], args := [d] }
  | _ => none }
def fnExactIsNetRow : OpenClaim := { program := "ythfnnlbppkhhjaa", sum := "4e41db36686d5c2201c997b2ff01d1409436e077d9ab9bd862d936815b463f52", func := "loop.example/g00958/laws.FnExactIsNet", spec := "fnExactIsNet", unfollowed := true, recurses := true, apart := false }
def FnExactIsNetSaid : Prop := fnExactIsNetRow.holds Try.pinned (OpenSpec.ofChange fnExactIsNetSpec)

/-- ITS FALSE NEIGHBOUR: 'it returns false'. Refute it at one input. -/
def fnExactIsNetWrong : ChangeSpec := { name := "fnExactIsNet", fn := fun _ => fun
  | [d] => { results := [.lit (.bool false)], args := [d] }
  | _ => none }
def FnExactIsNetWrongFalsely : Prop := fnExactIsNetRow.holds Try.pinned (OpenSpec.ofChange fnExactIsNetWrong)

/-- 'laws.FnClocks': WHATEVER THE INPUT: true; the input reads as it did. -/
def fnClocksSpec : ChangeSpec := { name := "fnClocks", fn := fun _ => fun
  | [d] => { results := [.lit (.bool true)], args := [d] }
  | _ => none }
def fnClocksRow : OpenClaim := { program := "ythfnnlbppkhhjaa", sum := "4e41db36686d5c2201c997b2ff01d1409436e077d9ab9bd862d936815b463f52", func := "loop.example/g00958/laws.FnClocks", spec := "fnClocks", apart := false }
def FnClocksSaid : Prop := fnClocksRow.holds Try.pinned (OpenSpec.ofChange fnClocksSpec)

/-- ITS FALSE NEIGHBOUR: 'it returns false'. Refute it at one input. -/
def fnClocksWrong : ChangeSpec := { name := "fnClocks", fn := fun _ => fun
  | [d] => { results := [.lit (.bool false)], args := [d] }
  | _ => none }
def FnClocksWrongFalsely : Prop := fnClocksRow.holds Try.pinned (OpenSpec.ofChange fnClocksWrong)

/-- 'laws.FnExactExplains': WHATEVER THE INPUT: true; the input reads as it did. -/
def fnExactExplainsSpec : ChangeSpec := { name := "fnExactExplains", fn := fun _ => fun
  | [d1, d2, d3] => { results := [.lit (.bool true)], args := [d1, d2, d3] }
  | _ => none }
def fnExactExplainsRow : OpenClaim := { program := "ythfnnlbppkhhjaa", sum := "4e41db36686d5c2201c997b2ff01d1409436e077d9ab9bd862d936815b463f52", func := "loop.example/g00958/laws.FnExactExplains", spec := "fnExactExplains", unfollowed := true, recurses := true, apart := false }
def FnExactExplainsSaid : Prop := fnExactExplainsRow.holds Try.pinned (OpenSpec.ofChange fnExactExplainsSpec)

/-- ITS FALSE NEIGHBOUR: 'it returns false'. Refute it at one input. -/
def fnExactExplainsWrong : ChangeSpec := { name := "fnExactExplains", fn := fun _ => fun
  | [d1, d2, d3] => { results := [.lit (.bool false)], args := [d1, d2, d3] }
  | _ => none }
def FnExactExplainsWrongFalsely : Prop := fnExactExplainsRow.holds Try.pinned (OpenSpec.ofChange fnExactExplainsWrong)

/-- 'laws.FnExactEndOf': WHATEVER THE INPUT: true; the input reads as it did. -/
def fnExactEndOfSpec : ChangeSpec := { name := "fnExactEndOf", fn := fun _ => fun
  | [d1, d2, d3] => { results := [.lit (.bool true)], args := [d1, d2, d3] }
  | _ => none }
def fnExactEndOfRow : OpenClaim := { program := "ythfnnlbppkhhjaa", sum := "4e41db36686d5c2201c997b2ff01d1409436e077d9ab9bd862d936815b463f52", func := "loop.example/g00958/laws.FnExactEndOf", spec := "fnExactEndOf", apart := false }
def FnExactEndOfSaid : Prop := fnExactEndOfRow.holds Try.pinned (OpenSpec.ofChange fnExactEndOfSpec)

/-- ITS FALSE NEIGHBOUR: 'it returns false'. Refute it at one input. -/
def fnExactEndOfWrong : ChangeSpec := { name := "fnExactEndOf", fn := fun _ => fun
  | [d1, d2, d3] => { results := [.lit (.bool false)], args := [d1, d2, d3] }
  | _ => none }
def FnExactEndOfWrongFalsely : Prop := fnExactEndOfRow.holds Try.pinned (OpenSpec.ofChange fnExactEndOfWrong)

/-- 'laws.FnExactTwinsOf': WHATEVER THE INPUT: true; the input reads as it did. -/
def fnExactTwinsOfSpec : ChangeSpec := { name := "fnExactTwinsOf", fn := fun _ => fun
  | [d1, d2] => { results := [.lit (.bool true)], args := [d1, d2] }
  | _ => none }
def fnExactTwinsOfRow : OpenClaim := { program := "ythfnnlbppkhhjaa", sum := "4e41db36686d5c2201c997b2ff01d1409436e077d9ab9bd862d936815b463f52", func := "loop.example/g00958/laws.FnExactTwinsOf", spec := "fnExactTwinsOf", unfollowed := true, recurses := true, apart := false }
def FnExactTwinsOfSaid : Prop := fnExactTwinsOfRow.holds Try.pinned (OpenSpec.ofChange fnExactTwinsOfSpec)

/-- ITS FALSE NEIGHBOUR: 'it returns false'. Refute it at one input. -/
def fnExactTwinsOfWrong : ChangeSpec := { name := "fnExactTwinsOf", fn := fun _ => fun
  | [d1, d2] => { results := [.lit (.bool false)], args := [d1, d2] }
  | _ => none }
def FnExactTwinsOfWrongFalsely : Prop := fnExactTwinsOfRow.holds Try.pinned (OpenSpec.ofChange fnExactTwinsOfWrong)

/- THE SECOND FORM. 'bulk': how many values and letters a reading holds, each counted each time it is reached (what is shared counts as often as it is met; a slice's spare places count too). A statement '..UptoSaid' is the law's where the arguments, and the package variables that the reading takes, are together of bulk at most 1048576: NARROWER than '..Said'. Prove '..Said' where nothing that the law and all that it calls make is longer than what came in: it says more and counts as full. Else prove '..UptoSaid'. A law counts once. -/
mutual
def uptoBulk {H : Type} : DataW H → Nat
  | .lit (.string bytes) => bytes.length + 1
  | .lit _ => 1
  | .nil => 1
  | .ptr d => uptoBulk d + 1
  | .slice elems spare => uptoBulkAll elems + uptoBulkAll spare + 1
  | .agg parts => uptoBulkAll parts + 1
  | .iface _ d => uptoBulk d + 1
  | .map entries => uptoBulkEntries entries + 1
  | .held _ => 1
def uptoBulkAll {H : Type} : List (DataW H) → Nat
  | [] => 0
  | d :: r => uptoBulk d + uptoBulkAll r
def uptoBulkEntries {H : Type} : List (Lit × DataW H) → Nat
  | [] => 0
  | x :: r => uptoBulkEntry x + uptoBulkEntries r
def uptoBulkEntry {H : Type} : Lit × DataW H → Nat
  | (.string bytes, d) => bytes.length + uptoBulk d + 1
  | (_, d) => uptoBulk d + 1
 end
def uptoSmall : (H : Type) → List (DataW H) → Bool := fun _ ds => decide (uptoBulkAll ds ≤ 1048576)
def OpenSpec.upto (s : _root_.Go.ChangeSpec) : _root_.Go.OpenSpec := { _root_.Go.OpenSpec.ofChange s with cond := some uptoSmall }

/-- 'laws.FnExactMeetAll', WHERE WHAT IT READS IS OF BULK AT MOST 1048576: true; the input reads as it did. -/
def fnExactMeetAllUptoRow : OpenClaim := { program := "ythfnnlbppkhhjaa", sum := "4e41db36686d5c2201c997b2ff01d1409436e077d9ab9bd862d936815b463f52", func := "loop.example/g00958/laws.FnExactMeetAll", spec := "fnExactMeetAll", apart := false, narrowed := true }
def FnExactMeetAllUptoSaid : Prop := fnExactMeetAllUptoRow.holds Try.pinned (OpenSpec.upto fnExactMeetAllSpec)

/-- 'laws.FnExactStartBounds', WHERE WHAT IT READS IS OF BULK AT MOST 1048576: true; the input reads as it did. -/
def fnExactStartBoundsUptoRow : OpenClaim := { program := "ythfnnlbppkhhjaa", sum := "4e41db36686d5c2201c997b2ff01d1409436e077d9ab9bd862d936815b463f52", func := "loop.example/g00958/laws.FnExactStartBounds", spec := "fnExactStartBounds", apart := false, narrowed := true }
def FnExactStartBoundsUptoSaid : Prop := fnExactStartBoundsUptoRow.holds Try.pinned (OpenSpec.upto fnExactStartBoundsSpec)

/-- 'laws.FnExactSetsOf', WHERE WHAT IT READS IS OF BULK AT MOST 1048576: true; the input reads as it did. -/
def fnExactSetsOfUptoRow : OpenClaim := { program := "ythfnnlbppkhhjaa", sum := "4e41db36686d5c2201c997b2ff01d1409436e077d9ab9bd862d936815b463f52", func := "loop.example/g00958/laws.FnExactSetsOf", spec := "fnExactSetsOf", unfollowed := true, recurses := true, apart := false, narrowed := true }
def FnExactSetsOfUptoSaid : Prop := fnExactSetsOfUptoRow.holds Try.pinned (OpenSpec.upto fnExactSetsOfSpec)

/-- 'laws.FnExactIsNet', WHERE WHAT IT READS IS OF BULK AT MOST 1048576: true; the input reads as it did. -/
def fnExactIsNetUptoRow : OpenClaim := { program := "ythfnnlbppkhhjaa", sum := "4e41db36686d5c2201c997b2ff01d1409436e077d9ab9bd862d936815b463f52", func := "loop.example/g00958/laws.FnExactIsNet", spec := "fnExactIsNet", unfollowed := true, recurses := true, apart := false, narrowed := true }
def FnExactIsNetUptoSaid : Prop := fnExactIsNetUptoRow.holds Try.pinned (OpenSpec.upto fnExactIsNetSpec)

/-- 'laws.FnClocks', WHERE WHAT IT READS IS OF BULK AT MOST 1048576: true; the input reads as it did. -/
def fnClocksUptoRow : OpenClaim := { program := "ythfnnlbppkhhjaa", sum := "4e41db36686d5c2201c997b2ff01d1409436e077d9ab9bd862d936815b463f52", func := "loop.example/g00958/laws.FnClocks", spec := "fnClocks", apart := false, narrowed := true }
def FnClocksUptoSaid : Prop := fnClocksUptoRow.holds Try.pinned (OpenSpec.upto fnClocksSpec)

/-- 'laws.FnExactExplains', WHERE WHAT IT READS IS OF BULK AT MOST 1048576: true; the input reads as it did. -/
def fnExactExplainsUptoRow : OpenClaim := { program := "ythfnnlbppkhhjaa", sum := "4e41db36686d5c2201c997b2ff01d1409436e077d9ab9bd862d936815b463f52", func := "loop.example/g00958/laws.FnExactExplains", spec := "fnExactExplains", unfollowed := true, recurses := true, apart := false, narrowed := true }
def FnExactExplainsUptoSaid : Prop := fnExactExplainsUptoRow.holds Try.pinned (OpenSpec.upto fnExactExplainsSpec)

/-- 'laws.FnExactEndOf', WHERE WHAT IT READS IS OF BULK AT MOST 1048576: true; the input reads as it did. -/
def fnExactEndOfUptoRow : OpenClaim := { program := "ythfnnlbppkhhjaa", sum := "4e41db36686d5c2201c997b2ff01d1409436e077d9ab9bd862d936815b463f52", func := "loop.example/g00958/laws.FnExactEndOf", spec := "fnExactEndOf", apart := false, narrowed := true }
def FnExactEndOfUptoSaid : Prop := fnExactEndOfUptoRow.holds Try.pinned (OpenSpec.upto fnExactEndOfSpec)

/-- 'laws.FnExactTwinsOf', WHERE WHAT IT READS IS OF BULK AT MOST 1048576: true; the input reads as it did. -/
def fnExactTwinsOfUptoRow : OpenClaim := { program := "ythfnnlbppkhhjaa", sum := "4e41db36686d5c2201c997b2ff01d1409436e077d9ab9bd862d936815b463f52", func := "loop.example/g00958/laws.FnExactTwinsOf", spec := "fnExactTwinsOf", unfollowed := true, recurses := true, apart := false, narrowed := true }
def FnExactTwinsOfUptoSaid : Prop := fnExactTwinsOfUptoRow.holds Try.pinned (OpenSpec.upto fnExactTwinsOfSpec)

end Rows
end Go.Proofs.Ythfnnlbppkhhjaa
