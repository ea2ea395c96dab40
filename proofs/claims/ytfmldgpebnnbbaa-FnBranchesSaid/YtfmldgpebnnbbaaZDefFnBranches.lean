/- The one plain statement to which the law FnBranches comes down. -/
import Derived.Test.YtfmldgpebnnbbaaZ8
import Derived.Test.YtfmldgpebnnbbaaZOk
namespace Go.Proofs.Ytfmldgpebnnbbaa.Z
open Go.RowKit Go.Proofs.YtfmldgpebnnbbaaW.PrintWords Go.Proofs.YtfmldgpebnnbbaaW.PrintLast Go.Proofs.YtfmldgpebnnbbaaW.PrintMore
set_option linter.unusedVariables false
def laws_FnBranches.Pure : Prop := ∀ (l0 : List Int), l0.length ≤ maxLen → l0.length * 1 ≤ 140737488351232 → (∀ x ∈ l0, (Lit.int .u8 x).wf = true) → ∃ k, laws_FnBranches.f k l0 = some true
end Go.Proofs.Ytfmldgpebnnbbaa.Z
