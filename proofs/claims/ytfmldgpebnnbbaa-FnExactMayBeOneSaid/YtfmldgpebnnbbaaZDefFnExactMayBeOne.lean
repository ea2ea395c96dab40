/- The one plain statement to which the law FnExactMayBeOne comes down. -/
import Derived.Test.YtfmldgpebnnbbaaZ8
import Derived.Test.YtfmldgpebnnbbaaZOk
namespace Go.Proofs.Ytfmldgpebnnbbaa.Z
open Go.RowKit Go.Proofs.YtfmldgpebnnbbaaW.PrintWords Go.Proofs.YtfmldgpebnnbbaaW.PrintLast Go.Proofs.YtfmldgpebnnbbaaW.PrintMore
set_option linter.unusedVariables false
def laws_FnExactMayBeOne.Pure : Prop := ∀ (l0 : List (S98)) (l1 : List Int), (ZOpen.okL okS98) l0 → l1.length ≤ maxLen → l1.length * 8 ≤ 140737488351232 → (∀ x ∈ l1, (Lit.int .i64 x).wf = true) → ∃ k, laws_FnExactMayBeOne.f k l0 l1 = some true
end Go.Proofs.Ytfmldgpebnnbbaa.Z
