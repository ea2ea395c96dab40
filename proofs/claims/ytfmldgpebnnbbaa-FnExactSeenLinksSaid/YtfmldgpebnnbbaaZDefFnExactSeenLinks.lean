/- The one plain statement to which the law FnExactSeenLinks comes down. -/
import Derived.Test.YtfmldgpebnnbbaaZ7
import Derived.Test.YtfmldgpebnnbbaaZOk
namespace Go.Proofs.Ytfmldgpebnnbbaa.Z
open Go.RowKit Go.Proofs.YtfmldgpebnnbbaaW.PrintWords Go.Proofs.YtfmldgpebnnbbaaW.PrintLast Go.Proofs.YtfmldgpebnnbbaaW.PrintMore
set_option linter.unusedVariables false
def laws_FnExactSeenLinks.Pure : Prop := ∀ (l0 : List (S104)), (ZOpen.okL okS104) l0 → ∃ k, laws_FnExactSeenLinks.f k l0 = some true
end Go.Proofs.Ytfmldgpebnnbbaa.Z
