/- The one plain statement to which the law FnExactSurelyApart comes down. -/
import Derived.Test.YtfmldgpebnnbbaaZ8
import Derived.Test.YtfmldgpebnnbbaaZOk
namespace Go.Proofs.Ytfmldgpebnnbbaa.Z
open Go.RowKit Go.Proofs.YtfmldgpebnnbbaaW.PrintWords Go.Proofs.YtfmldgpebnnbbaaW.PrintLast Go.Proofs.YtfmldgpebnnbbaaW.PrintMore
set_option linter.unusedVariables false
def laws_FnExactSurelyApart.Pure : Prop := ∀ (l0 : List (S98)) (a1 : Int) (a2 : Int), (ZOpen.okL okS98) l0 → (ZOpen.okI .i64) a1 → (ZOpen.okI .i64) a2 → ∃ k, laws_FnExactSurelyApart.f k l0 a1 a2 = some true
end Go.Proofs.Ytfmldgpebnnbbaa.Z
