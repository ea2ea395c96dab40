/-
  No cell of these rows narrows 'for every input' (looked for: loops, veiled, ifaces, maps, wideKeys, modest, calm, conditions, laid).
  DERIVED. THE GIVEN ROWS OF THIS SEAT. 8 by the template 'for every input the law returns true; each argument reads behind the call as it read before'; 0 by the template 'total and deterministic' (their statements: YtlghphhkbobhiaaTotals.lean).
  GIVEN WITH THE SEED: the statements are not yours to turn. If you find one false, say at which input.
  Laid BY PROGRAM, IN A SANDBOX (cutbox-rows.mjs): the forced cells as the released guide's own fill.sh prints them over the translation 37c3130c5b39b2ad… (all of the seat's roots in one cut). By AI agents, Wed Nov 11 2026. No macro, syntax, notation, axiom, sorry.
-/
import Derived.Test.YtlghphhkbobhiaaChecked
import GoSem.Claim
import GoSem.ClaimJoined
import GoSem.ClaimMapViews
import Derived.JoinedTies
import Derived.KernelRfl
namespace Go.Proofs.Ytlghphhkbobhiaa
/- THE CELL 'sum', in the pinned program and in every row, IS THE sha256 OF THE DUMP (.gsa) THAT YtlghphhkbobhiaaProg.lean LOADS. Nothing in Lean hashes anything: it is a label: what it is worth is what the hold of that sum in a sandbox is worth. -/
noncomputable def Try.pinned : Pinned := { name := "ytlghphhkbobhiaa", sum := "37c3130c5b39b2ad6575c9766714be41c3f88b08653174d779b8e9dbba3d8ad3", checked := Try.checked }
namespace Rows
def none {H : Type} : Left H := { results := [], args := [] }

/-- 'laws.FnExactAreTraces': WHATEVER THE INPUT: true; the input reads as it did. -/
def fnExactAreTracesSpec : ChangeSpec := { name := "fnExactAreTraces", fn := fun _ => fun
  | [d] => { results := [.lit (.bool true)], args := [d] }
  | _ => none }
def fnExactAreTracesRow : OpenClaim := { program := "ytlghphhkbobhiaa", sum := "37c3130c5b39b2ad6575c9766714be41c3f88b08653174d779b8e9dbba3d8ad3", func := "loop.example/g00958/laws.FnExactAreTraces", spec := "fnExactAreTraces", apart := false }
def FnExactAreTracesSaid : Prop := fnExactAreTracesRow.holds Try.pinned (OpenSpec.ofChange fnExactAreTracesSpec)

/-- ITS FALSE NEIGHBOUR: 'it returns false'. Refute it at one input. -/
def fnExactAreTracesWrong : ChangeSpec := { name := "fnExactAreTraces", fn := fun _ => fun
  | [d] => { results := [.lit (.bool false)], args := [d] }
  | _ => none }
def FnExactAreTracesWrongFalsely : Prop := fnExactAreTracesRow.holds Try.pinned (OpenSpec.ofChange fnExactAreTracesWrong)

/-- 'laws.FnExactIsPath': WHATEVER THE INPUT: true; the input reads as it did. -/
def fnExactIsPathSpec : ChangeSpec := { name := "fnExactIsPath", fn := fun _ => fun
  | [d1, d2, d3, d4] => { results := [.lit (.bool true)], args := [d1, d2, d3, d4] }
  | _ => none }
def fnExactIsPathRow : OpenClaim := { program := "ytlghphhkbobhiaa", sum := "37c3130c5b39b2ad6575c9766714be41c3f88b08653174d779b8e9dbba3d8ad3", func := "loop.example/g00958/laws.FnExactIsPath", spec := "fnExactIsPath", apart := false }
def FnExactIsPathSaid : Prop := fnExactIsPathRow.holds Try.pinned (OpenSpec.ofChange fnExactIsPathSpec)

/-- ITS FALSE NEIGHBOUR: 'it returns false'. Refute it at one input. -/
def fnExactIsPathWrong : ChangeSpec := { name := "fnExactIsPath", fn := fun _ => fun
  | [d1, d2, d3, d4] => { results := [.lit (.bool false)], args := [d1, d2, d3, d4] }
  | _ => none }
def FnExactIsPathWrongFalsely : Prop := fnExactIsPathRow.holds Try.pinned (OpenSpec.ofChange fnExactIsPathWrong)

/-- 'laws.FnExactAreBounds': WHATEVER THE INPUT: true; the input reads as it did. -/
def fnExactAreBoundsSpec : ChangeSpec := { name := "fnExactAreBounds", fn := fun _ => fun
  | [d1, d2, d3] => { results := [.lit (.bool true)], args := [d1, d2, d3] }
  | _ => none }
def fnExactAreBoundsRow : OpenClaim := { program := "ytlghphhkbobhiaa", sum := "37c3130c5b39b2ad6575c9766714be41c3f88b08653174d779b8e9dbba3d8ad3", func := "loop.example/g00958/laws.FnExactAreBounds", spec := "fnExactAreBounds", unfollowed := true, recurses := true, apart := false }
def FnExactAreBoundsSaid : Prop := fnExactAreBoundsRow.holds Try.pinned (OpenSpec.ofChange fnExactAreBoundsSpec)

/-- ITS FALSE NEIGHBOUR: 'it returns false'. Refute it at one input. -/
def fnExactAreBoundsWrong : ChangeSpec := { name := "fnExactAreBounds", fn := fun _ => fun
  | [d1, d2, d3] => { results := [.lit (.bool false)], args := [d1, d2, d3] }
  | _ => none }
def FnExactAreBoundsWrongFalsely : Prop := fnExactAreBoundsRow.holds Try.pinned (OpenSpec.ofChange fnExactAreBoundsWrong)

/-- 'laws.FnExactMatrixOf': WHATEVER THE INPUT: true; the input reads as it did. -/
def fnExactMatrixOfSpec : ChangeSpec := { name := "fnExactMatrixOf", fn := fun _ => fun
  | [d1, d2] => { results := [.lit (.bool true)], args := [d1, d2] }
  | _ => none }
def fnExactMatrixOfRow : OpenClaim := { program := "ytlghphhkbobhiaa", sum := "37c3130c5b39b2ad6575c9766714be41c3f88b08653174d779b8e9dbba3d8ad3", func := "loop.example/g00958/laws.FnExactMatrixOf", spec := "fnExactMatrixOf", apart := false }
def FnExactMatrixOfSaid : Prop := fnExactMatrixOfRow.holds Try.pinned (OpenSpec.ofChange fnExactMatrixOfSpec)

/-- ITS FALSE NEIGHBOUR: 'it returns false'. Refute it at one input. -/
def fnExactMatrixOfWrong : ChangeSpec := { name := "fnExactMatrixOf", fn := fun _ => fun
  | [d1, d2] => { results := [.lit (.bool false)], args := [d1, d2] }
  | _ => none }
def FnExactMatrixOfWrongFalsely : Prop := fnExactMatrixOfRow.holds Try.pinned (OpenSpec.ofChange fnExactMatrixOfWrong)

/-- 'laws.FnNets': WHATEVER THE INPUT: true; the input reads as it did. -/
def fnNetsSpec : ChangeSpec := { name := "fnNets", fn := fun _ => fun
  | [d] => { results := [.lit (.bool true)], args := [d] }
  | _ => none }
def fnNetsRow : OpenClaim := { program := "ytlghphhkbobhiaa", sum := "37c3130c5b39b2ad6575c9766714be41c3f88b08653174d779b8e9dbba3d8ad3", func := "loop.example/g00958/laws.FnNets", spec := "fnNets", unfollowed := true, recurses := true, apart := false }
def FnNetsSaid : Prop := fnNetsRow.holds Try.pinned (OpenSpec.ofChange fnNetsSpec)

/-- ITS FALSE NEIGHBOUR: 'it returns false'. Refute it at one input. -/
def fnNetsWrong : ChangeSpec := { name := "fnNets", fn := fun _ => fun
  | [d] => { results := [.lit (.bool false)], args := [d] }
  | _ => none }
def FnNetsWrongFalsely : Prop := fnNetsRow.holds Try.pinned (OpenSpec.ofChange fnNetsWrong)

/-- 'laws.FnExactAllowsDelays': WHATEVER THE INPUT: true; the input reads as it did. -/
def fnExactAllowsDelaysSpec : ChangeSpec := { name := "fnExactAllowsDelays", fn := fun _ => fun
  | [d1, d2, d3] => { results := [.lit (.bool true)], args := [d1, d2, d3] }
  | _ => none }
def fnExactAllowsDelaysRow : OpenClaim := { program := "ytlghphhkbobhiaa", sum := "37c3130c5b39b2ad6575c9766714be41c3f88b08653174d779b8e9dbba3d8ad3", func := "loop.example/g00958/laws.FnExactAllowsDelays", spec := "fnExactAllowsDelays", unfollowed := true, recurses := true, apart := false }
def FnExactAllowsDelaysSaid : Prop := fnExactAllowsDelaysRow.holds Try.pinned (OpenSpec.ofChange fnExactAllowsDelaysSpec)

/-- ITS FALSE NEIGHBOUR: 'it returns false'. Refute it at one input. -/
def fnExactAllowsDelaysWrong : ChangeSpec := { name := "fnExactAllowsDelays", fn := fun _ => fun
  | [d1, d2, d3] => { results := [.lit (.bool false)], args := [d1, d2, d3] }
  | _ => none }
def FnExactAllowsDelaysWrongFalsely : Prop := fnExactAllowsDelaysRow.holds Try.pinned (OpenSpec.ofChange fnExactAllowsDelaysWrong)

/-- 'laws.FnExactRouteTo': WHATEVER THE INPUT: true; the input reads as it did. -/
def fnExactRouteToSpec : ChangeSpec := { name := "fnExactRouteTo", fn := fun _ => fun
  | [d1, d2, d3] => { results := [.lit (.bool true)], args := [d1, d2, d3] }
  | _ => none }
def fnExactRouteToRow : OpenClaim := { program := "ytlghphhkbobhiaa", sum := "37c3130c5b39b2ad6575c9766714be41c3f88b08653174d779b8e9dbba3d8ad3", func := "loop.example/g00958/laws.FnExactRouteTo", spec := "fnExactRouteTo", unfollowed := true, recurses := true, apart := false }
def FnExactRouteToSaid : Prop := fnExactRouteToRow.holds Try.pinned (OpenSpec.ofChange fnExactRouteToSpec)

/-- ITS FALSE NEIGHBOUR: 'it returns false'. Refute it at one input. -/
def fnExactRouteToWrong : ChangeSpec := { name := "fnExactRouteTo", fn := fun _ => fun
  | [d1, d2, d3] => { results := [.lit (.bool false)], args := [d1, d2, d3] }
  | _ => none }
def FnExactRouteToWrongFalsely : Prop := fnExactRouteToRow.holds Try.pinned (OpenSpec.ofChange fnExactRouteToWrong)

/-- 'laws.FnExactAreProbes': WHATEVER THE INPUT: true; the input reads as it did. -/
def fnExactAreProbesSpec : ChangeSpec := { name := "fnExactAreProbes", fn := fun _ => fun
  | [d1, d2] => { results := [.lit (.bool true)], args := [d1, d2] }
  | _ => none }
def fnExactAreProbesRow : OpenClaim := { program := "ytlghphhkbobhiaa", sum := "37c3130c5b39b2ad6575c9766714be41c3f88b08653174d779b8e9dbba3d8ad3", func := "loop.example/g00958/laws.FnExactAreProbes", spec := "fnExactAreProbes", unfollowed := true, recurses := true, apart := false }
def FnExactAreProbesSaid : Prop := fnExactAreProbesRow.holds Try.pinned (OpenSpec.ofChange fnExactAreProbesSpec)

/-- ITS FALSE NEIGHBOUR: 'it returns false'. Refute it at one input. -/
def fnExactAreProbesWrong : ChangeSpec := { name := "fnExactAreProbes", fn := fun _ => fun
  | [d1, d2] => { results := [.lit (.bool false)], args := [d1, d2] }
  | _ => none }
def FnExactAreProbesWrongFalsely : Prop := fnExactAreProbesRow.holds Try.pinned (OpenSpec.ofChange fnExactAreProbesWrong)

/- THE SECOND FORM. 'bulk': how many values and letters a reading holds, each counted each time it is reached (what is shared counts as often as it is met; a slice's spare places count too). A statement '..UptoSaid' is the law's where the arguments, and the package variables that the reading takes, are together of bulk at most 1048576: NARROWER than '..Said'. Prove '..Said' where nothing that the law and all that it calls make is longer than what came in: it says more and counts as full. Else prove '..UptoSaid'. A law counts once. -/
mutual
def uptoBulk {H : Type} : DataW H → Nat
  | .lit (.string bytes) => bytes.length + 1
  | .lit _ => 1
  | .nil => 1
  | .ptr d => uptoBulk d + 1
  | .slice elems spare => uptoBulkAll elems + uptoBulkAll spare + 1
  | .agg parts => uptoBulkAll parts + 1
  | .iface _ d => uptoBulk d + 1
  | .map entries => uptoBulkEntries entries + 1
  | .held _ => 1
def uptoBulkAll {H : Type} : List (DataW H) → Nat
  | [] => 0
  | d :: r => uptoBulk d + uptoBulkAll r
def uptoBulkEntries {H : Type} : List (Lit × DataW H) → Nat
  | [] => 0
  | x :: r => uptoBulkEntry x + uptoBulkEntries r
def uptoBulkEntry {H : Type} : Lit × DataW H → Nat
  | (.string bytes, d) => bytes.length + uptoBulk d + 1
  | (_, d) => uptoBulk d + 1
 end
def uptoSmall : (H : Type) → List (DataW H) → Bool := fun _ ds => decide (uptoBulkAll ds ≤ 1048576)
def OpenSpec.upto (s : _root_.Go.ChangeSpec) : _root_.Go.OpenSpec := { _root_.Go.OpenSpec.ofChange s with cond := some uptoSmall }

/-- 'laws.FnExactAreTraces', WHERE WHAT IT READS IS OF BULK AT MOST 1048576: true; the input reads as it did. -/
def fnExactAreTracesUptoRow : OpenClaim := { program := "ytlghphhkbobhiaa", sum := "37c3130c5b39b2ad6575c9766714be41c3f88b08653174d779b8e9dbba3d8ad3", func := "loop.example/g00958/laws.FnExactAreTraces", spec := "fnExactAreTraces", apart := false, narrowed := true }
def FnExactAreTracesUptoSaid : Prop := fnExactAreTracesUptoRow.holds Try.pinned (OpenSpec.upto fnExactAreTracesSpec)

/-- 'laws.FnExactIsPath', WHERE WHAT IT READS IS OF BULK AT MOST 1048576: true; the input reads as it did. -/
def fnExactIsPathUptoRow : OpenClaim := { program := "ytlghphhkbobhiaa", sum := "37c3130c5b39b2ad6575c9766714be41c3f88b08653174d779b8e9dbba3d8ad3", func := "loop.example/g00958/laws.FnExactIsPath", spec := "fnExactIsPath", apart := false, narrowed := true }
def FnExactIsPathUptoSaid : Prop := fnExactIsPathUptoRow.holds Try.pinned (OpenSpec.upto fnExactIsPathSpec)

/-- 'laws.FnExactAreBounds', WHERE WHAT IT READS IS OF BULK AT MOST 1048576: true; the input reads as it did. -/
def fnExactAreBoundsUptoRow : OpenClaim := { program := "ytlghphhkbobhiaa", sum := "37c3130c5b39b2ad6575c9766714be41c3f88b08653174d779b8e9dbba3d8ad3", func := "loop.example/g00958/laws.FnExactAreBounds", spec := "fnExactAreBounds", unfollowed := true, recurses := true, apart := false, narrowed := true }
def FnExactAreBoundsUptoSaid : Prop := fnExactAreBoundsUptoRow.holds Try.pinned (OpenSpec.upto fnExactAreBoundsSpec)

/-- 'laws.FnExactMatrixOf', WHERE WHAT IT READS IS OF BULK AT MOST 1048576: true; the input reads as it did. -/
def fnExactMatrixOfUptoRow : OpenClaim := { program := "ytlghphhkbobhiaa", sum := "37c3130c5b39b2ad6575c9766714be41c3f88b08653174d779b8e9dbba3d8ad3", func := "loop.example/g00958/laws.FnExactMatrixOf", spec := "fnExactMatrixOf", apart := false, narrowed := true }
def FnExactMatrixOfUptoSaid : Prop := fnExactMatrixOfUptoRow.holds Try.pinned (OpenSpec.upto fnExactMatrixOfSpec)

/-- 'laws.FnNets', WHERE WHAT IT READS IS OF BULK AT MOST 1048576: true; the input reads as it did. -/
def fnNetsUptoRow : OpenClaim := { program := "ytlghphhkbobhiaa", sum := "37c3130c5b39b2ad6575c9766714be41c3f88b08653174d779b8e9dbba3d8ad3", func := "loop.example/g00958/laws.FnNets", spec := "fnNets", unfollowed := true, recurses := true, apart := false, narrowed := true }
def FnNetsUptoSaid : Prop := fnNetsUptoRow.holds Try.pinned (OpenSpec.upto fnNetsSpec)

/-- 'laws.FnExactAllowsDelays', WHERE WHAT IT READS IS OF BULK AT MOST 1048576: true; the input reads as it did. -/
def fnExactAllowsDelaysUptoRow : OpenClaim := { program := "ytlghphhkbobhiaa", sum := "37c3130c5b39b2ad6575c9766714be41c3f88b08653174d779b8e9dbba3d8ad3", func := "loop.example/g00958/laws.FnExactAllowsDelays", spec := "fnExactAllowsDelays", unfollowed := true, recurses := true, apart := false, narrowed := true }
def FnExactAllowsDelaysUptoSaid : Prop := fnExactAllowsDelaysUptoRow.holds Try.pinned (OpenSpec.upto fnExactAllowsDelaysSpec)

/-- 'laws.FnExactRouteTo', WHERE WHAT IT READS IS OF BULK AT MOST 1048576: true; the input reads as it did. -/
def fnExactRouteToUptoRow : OpenClaim := { program := "ytlghphhkbobhiaa", sum := "37c3130c5b39b2ad6575c9766714be41c3f88b08653174d779b8e9dbba3d8ad3", func := "loop.example/g00958/laws.FnExactRouteTo", spec := "fnExactRouteTo", unfollowed := true, recurses := true, apart := false, narrowed := true }
def FnExactRouteToUptoSaid : Prop := fnExactRouteToUptoRow.holds Try.pinned (OpenSpec.upto fnExactRouteToSpec)

/-- 'laws.FnExactAreProbes', WHERE WHAT IT READS IS OF BULK AT MOST 1048576: true; the input reads as it did. -/
def fnExactAreProbesUptoRow : OpenClaim := { program := "ytlghphhkbobhiaa", sum := "37c3130c5b39b2ad6575c9766714be41c3f88b08653174d779b8e9dbba3d8ad3", func := "loop.example/g00958/laws.FnExactAreProbes", spec := "fnExactAreProbes", unfollowed := true, recurses := true, apart := false, narrowed := true }
def FnExactAreProbesUptoSaid : Prop := fnExactAreProbesUptoRow.holds Try.pinned (OpenSpec.upto fnExactAreProbesSpec)

end Rows
end Go.Proofs.Ytlghphhkbobhiaa
